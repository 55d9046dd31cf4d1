/-
  Part 13 of the proof, packed by program out of P8, P9, P10.
-/
import Derived.Test.YtpdfifdlhpmofaaGreatDoorZ12
set_option linter.unusedVariables false
set_option linter.unusedSimpArgs false
set_option maxHeartbeats 3200000
set_option maxRecDepth 100000
namespace Go.Proofs.YtpdfifdlhpmofaaGreatDoor
open Go.RowKit
open Go.Lib (hid)
def OK (a:Except Int qr) (b:Except Int RS):Prop:=match a,b with
 | .error c,.error d=>c=d
 | .ok y,.ok q=>LD y q
 | _,_=>False
theorem bu {x:qr} {r:RS} (h:LD x r) (w:ByteArray) (l:Ws) (hw:bs w=AN) (hl:Bz (w::l)=true):OK (x.DU l) (r.DU (w::l)):=by
 have key:∃n size,x.DU l=(if x.Aa≠[] then .error 3 else if (x.Pk n).isSome then .error 4 else .ok {x with Aw:=x.Aw++[⟨n,x.cells,size⟩],cells:=x.cells+size})∧
   n=wd l 0∧size=if 2 < (w::l).length then (number (bs (wd (w::l) 2))).getD 0 else 1:=by
  rcases l with _ | ⟨a,_ | ⟨b,_ | ⟨c,q⟩⟩⟩ <;>simp[Bz,ET,F1,GP,hw,AN] at hl
  ·exact⟨a,1,by unfold qr.DU;simp[CV,hl],rfl,by simp⟩
  ·refine⟨a,(number (bs b)).getD 0,by unfold qr.DU;simp[CV,Cx,hl],rfl,by simp[GP,F1]⟩
 obtain⟨n,size,e,hn,hs⟩:=key;rw[e];unfold RS.DU;rw[←hs,GP,←hn];by_cases ht:x.Aa=[]
 ·have V4:=(JQ h).2 ht;simp only[ht,V4,ne_eq,not_true_eq_false,if_false];rw[h.PX];cases hf:x.Pk n with
  | some sv=>
   obtain⟨i,_,h2⟩:=Ph hf;rw[h2];have:(0:Int)≤i:=by omega
   simp[this,OK]
  | none=>
   rw[Pj hf];simp only[Option.isSome_none,Bool.false_eq_true,if_false,show¬(0:Int)≤ -1 by omega];obtain⟨h1,h2,h3,h4,h5,h6,h7,h8⟩:=h;refine⟨by simp[h1],by simp,by simp[h3,h1],by simp[h4],h5,h6,h7,?_⟩;simpa[ht,V4] using h8
 ·have V4:¬r.p.Aa=[]:=fun h'=>ht ((JQ h).1 h')
  simp[ht,V4,OK]
theorem X9 {x:qr} {r:RS} (h:LD x r):OK (if x.Ai≠[] then .error 3 else .ok {x with Aa:=x.Aa++[.nil],AB:=[],Am:=0,Ai:=[]})
  (if r.Ai≠[] then .error 3 else .ok {r with p:={r.p with Aa:=r.p.Aa++[[]],AD:=r.p.AD++[List.replicate r.p.cells.toNat false],Cu:=r.p.Cu++[false]},AB:=[],Am:=0}):=by
 by_cases ho:x.Ai=[]
 ·have ah:r.Ai=[]:=List.eq_nil_of_length_eq_zero (by rw[Jf h,ho];rfl);simp only[ho,ah,ne_eq,not_true_eq_false,if_false];refine⟨h.cells,h.PX,h.first,h.size,rfl,rfl,Nat.zero_le _,.inr ⟨x.Aa,.nil,rfl,?_,by simp[Jt,ah]⟩⟩;rcases h.Aa with⟨h0,h1,h2,h3⟩ | ⟨ts,t,b1,b2,b3⟩
  ·simp[h0,h2,B4,Fo]
  ·simp[b1,b2,ho,B4,Fo]
 ·have ah:¬r.Ai=[]:=fun h'=>ho (List.eq_nil_of_length_eq_zero (by rw[←Jf h,h'];rfl))
  simp[ho,ah,OK]
theorem RE {x:qr} (h:¬x.Aa=[]):x.EI=x.Ai.length+1:=by unfold qr.EI;rw[if_neg h]
theorem dJ {x:qr} (h:¬x.Aa=[]) (s:Ck→Ck):(x.add s).EI=x.Ai.length+1:=by
 rcases List.eq_nil_or_concat x.Aa with h0 | ⟨ts,t,h0⟩
 ·exact absurd h0 h
 ·rw[List.concat_eq_append] at h0;obtain⟨t',a1,_⟩:=OG h0 s;rw[RE (by rw[a1];simp),aK h0]
theorem Pn {x:qr} (h:¬x.Aa=[]) (s:Ck→Ck):(x.add s).Am=x.Am:=by
 rcases List.eq_nil_or_concat x.Aa with h0 | ⟨ts,t,h0⟩
 ·exact absurd h0 h
 ·rw[List.concat_eq_append] at h0;obtain⟨t',a1,a2,a3,a4,a5,a6,a7,a8⟩:=OG h0 s;exact a8
theorem To {r:RS} (l:List Nd) (n:Int):RS.Bs {r with Am:=n} l={r.Bs l with Am:=n}:=rfl
theorem Tn {x:qr} {r:RS} (h:LD x r) (w:ByteArray) (l:Ws) (hw:bs w=CK∨bs w=Cw∨bs w=CL∨bs w=Ds∨bs w=AF∨bs w=I8∨bs w=C6) (hl:Bz (w::l)=true):
  OK (x.AO w l) (if r.p.Aa=[]∨(r.BE=false∧(bs w=Cw∨bs w=CL))∨(r.BE=true∧bs w=AF) then .error 3
    else match r.node (w::l) with
      | .error c=> .error c
      | .ok (r,x)=>
        if 14 < r.Am+1 then .error 5
        else if x.kind=122∨x.kind=108∨x.kind=40 then
          if r.Ai.length=3 then .error 5
          else .ok ({r with Am:=r.Am+1,Ai:=r.Ai++[r.Dg.length]}.Bs (r.Dg++[{x with Aj:=r.Ai.length}]))
        else .ok ({r with Am:=r.Am+1}.Bs (r.Dg++[x]))):=by
 obtain⟨s,hs,hb,hn⟩:=fG x r h w l hw hl;unfold qr.AO;rw[hs];simp only[];have hc:(x.Aa=[]∨(s.Cr=true∧x.BE=false)∨(bs w=AF∧x.BE=true))↔(r.p.Aa=[]∨(r.BE=false∧(bs w=Cw∨bs w=CL))∨(r.BE=true∧bs w=AF)):=by
  rw[JQ h,YZ h,hb];constructor
  ·rintro(a | ⟨a,b⟩ | ⟨a,b⟩)
   ·exact .inl a
   ·exact .inr (.inl ⟨b,a⟩)
   ·exact .inr (.inr ⟨b,a⟩)
  ·rintro(a | ⟨a,b⟩ | ⟨a,b⟩)
   ·exact .inl a
   ·exact .inr (.inl ⟨b,a⟩)
   ·exact .inr (.inr ⟨b,a⟩)
 by_cases Mb:x.Aa=[]∨(s.Cr=true∧x.BE=false)∨(bs w=AF∧x.BE=true)
 ·rw[if_pos Mb,if_pos (hc.1 Mb)];exact rfl
 ·rw[if_neg Mb,if_neg (fun h'=>Mb (hc.2 h'))];have cI:¬x.Aa=[]:=fun h'=>Mb (.inl h')
  unfold IV at hn;cases hf:x.finish s with
  | error c=>rw[hf] at hn;simp only[] at hn⊢;rw[hn];exact rfl
  | ok y=>
   rw[hf] at hn;simp only[] at hn⊢;obtain⟨y0,q,nd,e1,ad,e2,e3,e4,iz⟩:=hn;rw[e1];simp only[];have ae:¬y0.Aa=[]:=by rw[e2];exact cI
   obtain⟨ts,t,ht⟩:∃ts t,y0.Aa=ts++[t]:=by
    rcases List.eq_nil_or_concat y0.Aa with h0 | ⟨ts,t,h0⟩
    ·exact absurd h0 ae
    ·exact⟨ts,t,by rw[h0,List.concat_eq_append]⟩
   have hq:=ad.Am;have vi:=Jf ad;have hd:=ad.depth;rcases iz with⟨f,⟨l1,l2,l3⟩,rfl⟩ | ⟨k,rfl,rfl⟩
   ·rw[Pn ae,dJ ae,hq,if_neg l3];by_cases Kj:14 < y0.Am+1
    ·rw[if_pos (.inl Kj),if_pos Kj];exact rfl
    ·rw[if_neg (by omega),if_neg Kj];have hz:=aJ ad ht f [nd] (l1 _ _).symm;rw[To];obtain⟨h1,h2,h3,h4,h5,h6,h7,h8⟩:=hz;exact⟨h1,h2,h3,h4,h5,rfl,h7,h8⟩
   ·have AI:(y0.DH k).Am=y0.Am:=rfl;have Xc:(y0.DH k).EI=y0.Ai.length+2:=by
     rw[RE (x:=y0.DH k) ae];unfold qr.DH;simp
    have hk:(CP k 0).kind=122∨(CP k 0).kind=108∨(CP k 0).kind=40:=by cases k <;>simp[CP,Nd.of]
    rw[AI,Xc,hq,if_pos hk];by_cases Kj:14 < y0.Am+1
    ·rw[if_pos (.inl Kj),if_pos Kj];exact rfl
    ·rw[if_neg Kj];by_cases h3:y0.Ai.length=3
     ·rw[if_pos (by omega),if_pos (by rw[vi];exact h3)];exact rfl
     ·rw[if_neg (by omega),if_neg (by rw[vi];exact h3)];have hz:=dA ad ht k (by omega);have ho:({CP k 0 with Aj:=(q.Ai.length:Int)}:Nd)=CP k y0.Ai.length:=by rw[vi];cases k <;>rfl
      rw[ho];obtain⟨h1,h2,h3,h4,h5,h6,h7,h8⟩:=hz;exact⟨h1,h2,h3,h4,h5,rfl,h7,h8⟩
theorem ZV {x:qr} {r:RS} (h:LD x r) (w:ByteArray) (l:Ws) (hl:Bz (w::l)=true):OK (x.row (w::l)) (r.row (w::l)):=by
 rw[Wx];unfold RS.row;simp only[F1];by_cases h1:bs w=AN
 ·rw[if_pos h1,if_pos h1];exact bu h w l h1 hl
 rw[if_neg h1,if_neg h1];by_cases h2:bs w=AE
 ·rw[if_pos h2,if_pos h2];have oA:l=[]:=by
   rcases l with _ | ⟨a,q⟩
   ·rfl
   ·simp[Bz,ET,F1,h2,AN,AE] at hl
  subst oA;simp only[ne_eq,not_true_eq_false,if_false];exact X9 h
 rw[if_neg h2,if_neg h2];by_cases h3:bs w=D7
 ·simp only[h3,↓reduceIte];have oA:l=[]:=by
   rcases l with _ | ⟨a,q⟩
   ·rfl
   ·simp[Bz,ET,F1,h3,AN,AE,D7] at hl
  subst oA;simp only[ne_eq,not_true_eq_false,if_false];have he:=lG h;cases ho:x.Ai.getLast? with
  | none=>rw[ho] at he;simp only[] at he⊢;rw[he];exact rfl
  | some f=>
   rw[ho] at he;obtain⟨q,e1,e2⟩:=he;simp only[];rw[e1];exact e2
 simp only[h3,↓reduceIte];exact Tn h w l (RU w l h1 h2 h3 hl) hl
def Gh (r q:RS):Prop:=q.Aw=r.Aw∧q.first=r.first∧q.size=r.size∧q.Ai=r.Ai∧q.Am=r.Am∧q.p.Aa=r.p.Aa∧q.p.cells=r.p.cells∧
 (∀m:Int,(∀t,t∈r.p.AD→(t.length:Int)=m)→∀t,t∈q.p.AD→(t.length:Int)=m)∧q.p.AD.length=r.p.AD.length
theorem Gh.refl {r:RS} (_:r.p.AD≠[]):Gh r r:=⟨rfl,rfl,rfl,rfl,rfl,rfl,rfl,fun _ h=>h,rfl⟩
theorem Gh.ne {r q:RS} (k:Gh r q) (h:r.p.AD≠[]):q.p.AD≠[]:=fun h'=>h (List.eq_nil_of_length_eq_zero (by rw[←k.2.2.2.2.2.2.2.2,h'];rfl))
theorem Gh.trans {a b c:RS} (h:Gh a b) (k:Gh b c):Gh a c:=by
 obtain⟨h1,h2,h3,h4,h5,h6,h7,h8,h9⟩:=h;obtain⟨k1,k2,k3,k4,k5,k6,k7,k8,k9⟩:=k;exact⟨k1.trans h1,k2.trans h2,k3.trans h3,k4.trans h4,k5.trans h5,k6.trans h6,k7.trans h7,fun m h=>k8 m (h8 m h),k9.trans h9⟩
theorem Q7 {r:RS} (h:r.p.AD≠[]) (c:Int):Gh r (r.Fu c):=by
 refine⟨rfl,rfl,rfl,rfl,rfl,rfl,rfl,fun m hm t ht=> ?_,by have:=List.length_pos_iff.2 h;simp[RS.Fu];omega⟩;obtain⟨ts,t0,h0⟩:∃ts t,r.p.AD=ts++[t]:=by
  rcases List.eq_nil_or_concat r.p.AD with h0 | ⟨ts,t,h0⟩
  ·exact absurd h0 h
  ·exact⟨ts,t,by rw[h0,List.concat_eq_append]⟩
 unfold RS.Fu at ht;simp only[h0,List.dropLast_concat,List.getLast?_append,List.getLast?_singleton,Option.some_or,Option.getD_some,List.mem_append,List.mem_singleton] at ht;rcases ht with ht | rfl
 ·exact hm t (by rw[h0];simp[ht])
 ·rw[List.length_set];exact hm t0 (by rw[h0];simp)
theorem UK {r:RS} (h:r.p.AD≠[]) (x:Nd) (s:ByteArray) (w:Ws):Gh r (r.cell x s w).1:=by
 unfold RS.cell;simp only[];by_cases hk:Bf r.Aw s < 0
 ·simp only[hk,if_true];exact Gh.refl h
 ·simp only[hk,if_false];by_cases h5:w.length=5
  ·simp only[h5,if_true];exact Q7 h _
  ·simp only[h5,if_false];exact Q7 h _
theorem O4 {r:RS} (h:r.p.AD≠[]) (x:Nd) (s:ByteArray) {q:RS} {y:Nd} (he:r.I7 x s= .ok (q,y)):Gh r q:=by
 unfold RS.I7 at he;split at he
 ·cases he
 ·split at he
  ·cases he;exact Gh.refl h
  ·split at he
   ·cases he
   ·cases he;exact⟨rfl,rfl,rfl,rfl,rfl,rfl,rfl,fun _ h=>h,rfl⟩
theorem WC (r:RS):Gh r r.Ee:=⟨rfl,rfl,rfl,rfl,rfl,rfl,rfl,fun _ h=>h,rfl⟩
theorem bP {r:RS} (h:r.p.AD≠[]) (w:Ws) {q:RS} {y:Nd} (he:r.node w= .ok (q,y)):Gh r q:=by
 unfold RS.node at he;simp only[] at he;split at he
 ·by_cases h5:w.length=5
  ·simp only[h5,if_true] at he;split at he
   ·exact O4 h _ _ he
   ·cases he
  ·simp only[h5,if_false] at he;split at he
   ·exact O4 h _ _ he
   ·cases he
 split at he
 ·have hc:=UK h (.of 103) (wd w 2) w;split at he
  ·exact hc.trans (O4 (hc.ne h) _ _ he)
  ·cases he
 split at he
 ·have hc:=UK h (.of 112) (wd w 1) w;split at he
  ·cases he;exact hc.trans (WC _)
  ·cases he
 split at he
 ·split at he
  ·cases he;exact Gh.refl h
  ·cases he
 split at he
 ·split at he
  ·cases he;exact Gh.refl h
  ·cases he
 split at he
 ·cases he;exact Gh.refl h
 split at he
 ·cases he;exact Gh.refl h
 ·cases he;exact Gh.refl h
structure JP (R:RS) (n:Nat):Prop where
 mg:KL R n
 tl:R.p.AD.length=R.p.Aa.length
 fl:R.first.length=R.Aw.length
 ne:R.Ai≠[]→R.p.Aa≠[]
 lt:∀k,k∈R.Ai→k < R.Dg.length
 ol:R.Ai.length≤3
 s0:0≤R.Am
 s1:R.Am≤14
 nl:R.p.Aa≠[]→(R.Dg.length:Int)+R.Ai.length≤2*R.Am
theorem JP.Z0 {R:RS} {n:Nat} (h:JP R n):Pp R:=by
 refine⟨h.ne,h.lt,h.ol,?_⟩;by_cases ht:R.p.Aa=[]
 ·simp[RS.Dg,ht]
 ·have:=h.nl ht;have:=h.s1;omega
theorem JP.Dk:JP .Dk 0:=by
 refine⟨⟨?_,by omega,?_,?_,?_,?_⟩,rfl,rfl,?_,?_,?_,?_,?_,?_⟩ <;>simp[RS.Dk]
theorem GX (r:RS) (l:List Nd):(r.Bs l).Dg=l:=by simp[RS.Dg,RS.Bs]
theorem Gy {r:RS} (h:r.p.Aa≠[]) (l:List Nd):(r.Bs l).p.Aa.length=r.p.Aa.length:=by
 have:=List.length_pos_iff.2 h;simp[RS.Bs];omega
theorem Nr (r:RS) (l:List Nd):(r.Bs l).p.Aa≠[]:=by simp[RS.Bs]
theorem JP.DU {R:RS} {n:Nat} (h:JP R n) (hn:n+1≤2500) {l:Ws} (hl:Bz l=true) (BQ:l≠[]) (hk:bs (wd l 0)=AN) {R':RS} (he:R.DU l= .ok R'):JP R' (n+1):=by
 unfold RS.DU at he;have hlen:l.length=2∨(l.length=3∧Fz (bs (wd l 2)) 6=true):=by
  obtain⟨w,r,rfl⟩:=List.exists_cons_of_ne_nil BQ;have QQ:bs w=AN:=hk;simp[Bz,ET,F1,GP,QQ,AN] at hl;rcases hl.2 with h | h
  ·left;simp;omega
  ·right;exact⟨by simp;omega,by rw[GP];exact h.2⟩
 obtain⟨z,EK,hz6,hz⟩:∃z:Int,1≤z∧z≤6∧(if 2 < l.length then (number (bs (wd l 2))).getD 0 else 1)=z:=by
  rcases hlen with h2 | ⟨h3,h4⟩
  ·exact⟨1,by omega,by omega,by simp[h2]⟩
  ·unfold Fz at h4;cases ld:number (bs (wd l 2)) with
   | none=>rw[ld] at h4;cases h4
   | some v=>
    rw[ld] at h4;simp only[Bool.and_eq_true,decide_eq_true_eq] at h4;exact⟨v,by omega,by omega,by simp[h3]⟩
 rw[hz] at he;by_cases ht:R.p.Aa=[]
 ·rw[if_neg (fun h=>h ht)] at he;split at he
  ·cases he
  ·cases he;obtain⟨⟨b1,b2,b3,b4,b5,b6⟩,a1,a2,a3,a4,a5,a6,a7,a8⟩:=h;refine⟨⟨by simp;omega,hn,by simp;omega,by simp;omega,fun c hc=> ?_,fun t hh=> ?_⟩,a1,by simp[a2],a3,a4,a5,a6,a7,a8⟩
   ·simp only[List.mem_append,List.mem_singleton] at hc;show 0≤c∧c < R.p.cells+z;rcases hc with hc | rfl
    ·have:=b5 c hc;omega
    ·omega
   ·have:R.p.AD=[]:=List.eq_nil_of_length_eq_zero (by rw[a1,ht];rfl);simp[this] at hh
 ·rw[if_pos ht] at he;cases he
theorem JP.LG {R:RS} {n:Nat} (h:JP R n) (hn:n+1≤2500) {R':RS} (he:R.LG= .ok R'):JP R' (n+1):=by
 unfold RS.LG at he;rcases List.eq_nil_or_concat R.Ai with h0 | ⟨os,a,h0⟩
 ·rw[h0] at he;simp at he
 ·rw[List.concat_eq_append] at h0;rw[h0] at he;simp only[List.getLast?_append,List.getLast?_singleton,Option.some_or,List.dropLast_concat,Except.ok.injEq] at he;have hT:=h.ne (by rw[h0];simp);generalize hl':(if (R.Dg.getD a (.of 0)).kind=40 then R.Dg++[Nd.of 41] else if (R.Dg.getD a (.of 0)).kind=108 then R.Dg++[{Nd.of 98 with C2:=a+1,Aj:=(R.Dg.getD a (.of 0)).Aj}] else R.Dg)=l' at he;have hlen:R.Dg.length≤l'.length∧l'.length≤R.Dg.length+1:=by
   subst hl';split
   ·simp
   ·split
    ·simp
    ·omega
  subst he;obtain⟨⟨b1,b2,b3,b4,b5,b6⟩,a1,a2,a3,a4,a5,a6,a7,a8⟩:=h;have e1:∀q:RS,(q.Bs (l'.set a {l'.getD a (.of 0) with C2:=l'.length})).Dg.length=l'.length:=fun q=>by rw[GX,List.length_set]
  have e2:({R with Ai:=os}:RS).p.Aa≠[]:=hT;have cN:R.Ai.length=os.length+1:=by rw[h0];simp
  have:=a8 hT;refine⟨⟨?_,hn,b3,b4,b5,b6⟩,?_,a2,fun _=>Nr _ _,?_,?_,a6,a7,fun _=> ?_⟩
  ·rw[Gy e2];show R.Aw.length+R.p.Aa.length≤n+1;omega
  ·rw[Gy e2];exact a1
  ·intro k hk;rw[e1];have:=a4 k (by rw[h0];exact List.mem_append_left _ hk);omega
  ·show os.length≤3;omega
  ·rw[e1];show(l'.length:Int)+os.length≤2*R.Am;omega
theorem JP.ny {R:RS} {n:Nat} (h:JP R n) (hn:n+1≤2500) (ho:R.Ai=[]):
  JP {R with p:={R.p with Aa:=R.p.Aa++[[]],AD:=R.p.AD++[List.replicate R.p.cells.toNat false],Cu:=R.p.Cu++[false]},AB:=[],Am:=0} (n+1):=by
 obtain⟨⟨b1,b2,b3,b4,b5,b6⟩,a1,a2,a3,a4,a5,a6,a7,a8⟩:=h;refine⟨⟨by simp;omega,hn,b3,b4,b5,fun t ht=> ?_⟩,by simp[a1],a2,fun _=>by simp,fun k hk=> ?_,a5,by simp,by simp,fun _=> ?_⟩
 ·simp only[List.mem_append,List.mem_singleton] at ht;rcases ht with ht | rfl
  ·exact b6 t ht
  ·simp;omega
 ·simp[ho] at hk
 ·simp[RS.Dg,ho]
theorem JP.qD {R:RS} {n:Nat} (h:JP R n) (hn:n+1≤2500) (hT:R.p.Aa≠[]) {q:RS} (k:Gh R q) (x:Nd) (Kj:¬14 < q.Am+1):
  JP ({q with Am:=q.Am+1}.Bs (q.Dg++[x])) (n+1)∧(¬q.Ai.length=3→JP ({q with Am:=q.Am+1,Ai:=q.Ai++[q.Dg.length]}.Bs (q.Dg++[x])) (n+1)):=by
 obtain⟨⟨b1,b2,b3,b4,b5,b6⟩,a1,a2,a3,a4,a5,a6,a7,a8⟩:=h;obtain⟨k1,k2,k3,k4,k5,k6,k7,k8,k9⟩:=k;have hl:q.Dg=R.Dg:=by unfold RS.Dg;rw[k6]
 have h8:=a8 hT;have hq:q.p.Aa≠[]:=by rw[k6];exact hT
 constructor
 ·refine⟨⟨?_,hn,?_,?_,?_,?_⟩,?_,?_,fun _=>Nr _ _,?_,?_,?_,?_,fun _=> ?_⟩
  ·rw[Gy (r:={q with Am:=q.Am+1}) hq];show q.Aw.length+q.p.Aa.length≤n+1;rw[k1,k6];omega
  ·show 0≤q.p.cells;rw[k7];exact b3
  ·show q.p.cells≤6*q.Aw.length;rw[k7,k1];exact b4
  ·show∀c,c∈q.first→0≤c∧c < q.p.cells;rw[k2,k7];exact b5
  ·show∀t,t∈q.p.AD→(t.length:Int)=q.p.cells;rw[k7];exact k8 _ b6
  ·rw[Gy (r:={q with Am:=q.Am+1}) hq];show q.p.AD.length=q.p.Aa.length;rw[k9,k6];exact a1
  ·show q.first.length=q.Aw.length;rw[k2,k1];exact a2
  ·intro k hk;rw[GX,hl];have:=a4 k (by rw[←k4];exact hk);simp;omega
  ·show q.Ai.length≤3;rw[k4];exact a5
  ·show 0≤q.Am+1;omega
  ·show q.Am+1≤14;omega
  ·rw[GX,hl];show((R.Dg++[x]).length:Int)+q.Ai.length≤2*(q.Am+1);rw[k4,k5];simp;omega
 ·intro h3;rw[k4] at h3;refine⟨⟨?_,hn,?_,?_,?_,?_⟩,?_,?_,fun _=>Nr _ _,?_,?_,?_,?_,fun _=> ?_⟩
  ·rw[Gy (r:={q with Am:=q.Am+1,Ai:=q.Ai++[q.Dg.length]}) hq];show q.Aw.length+q.p.Aa.length≤n+1;rw[k1,k6];omega
  ·show 0≤q.p.cells;rw[k7];exact b3
  ·show q.p.cells≤6*q.Aw.length;rw[k7,k1];exact b4
  ·show∀c,c∈q.first→0≤c∧c < q.p.cells;rw[k2,k7];exact b5
  ·show∀t,t∈q.p.AD→(t.length:Int)=q.p.cells;rw[k7];exact k8 _ b6
  ·rw[Gy (r:={q with Am:=q.Am+1,Ai:=q.Ai++[q.Dg.length]}) hq];show q.p.AD.length=q.p.Aa.length;rw[k9,k6];exact a1
  ·show q.first.length=q.Aw.length;rw[k2,k1];exact a2
  ·intro k hk;rw[GX,hl];have QQ:k∈q.Ai++[q.Dg.length]:=hk;rw[k4,hl] at QQ;simp only[List.mem_append,List.mem_singleton] at QQ;rw[List.length_append,List.length_singleton];rcases QQ with QQ | rfl
   ·have:=a4 k QQ;omega
   ·omega
  ·show(q.Ai++[q.Dg.length]).length≤3;rw[k4];simp;omega
  ·show 0≤q.Am+1;omega
  ·show q.Am+1≤14;omega
  ·rw[GX,hl];show((R.Dg++[x]).length:Int)+(q.Ai++[R.Dg.length]).length≤2*(q.Am+1);rw[k4,k5];simp;omega
theorem JP.row {R:RS} {n:Nat} (h:JP R n) (hn:n+1≤2500) {l:Ws} (hl:Bz l=true) (BQ:l≠[]) {R':RS} (he:R.row l= .ok R'):JP R' (n+1):=by
 unfold RS.row at he;simp only[] at he;split at he
 ·rename_i hk;exact h.DU hn hl BQ hk he
 split at he
 ·split at he
  ·cases he
  ·rename_i ho;cases he;exact h.ny hn (by simpa using ho)
 split at he
 ·exact h.LG hn he
 split at he
 ·cases he
 rename_i Mb;have hT:R.p.Aa≠[]:=fun h'=>Mb (.inl h')
 have hu:R.p.AD≠[]:=fun h'=>hT (List.eq_nil_of_length_eq_zero (by rw[←h.tl,h'];rfl))
 cases hr:R.node l with
 | error c=>rw[hr] at he;cases he
 | ok qx=>
  obtain⟨q,x⟩:=qx;rw[hr] at he;simp only[] at he;have hk:=bP hu l hr;split at he
  ·cases he
  ·rename_i Kj;split at he
   ·split at he
    ·cases he
    ·rename_i h3;cases he;exact(h.qD hn hT hk _ Kj).2 h3
   ·cases he;exact(h.qD hn hT hk _ Kj).1
def Gn (a:At):Prop:=if a.AL=true then 0≤a.v∧a.v < 4 else -9223372036854775808≤a.v∧a.v≤9223372036854775807
def WF (cells:Int):Ck→Nat→Bool→Prop
 | .nil,_,_=>True
 | .set v op a b r,d,i=>(0≤v∧v < 4)∧(op.size=0∨op∈Cn)∧Gn a∧Gn b∧WF cells r d i
 | .get v f s a r,d,i=>(0≤v∧v < 4)∧(0≤f∧1≤s∧f+s≤cells)∧Gn a∧i=true∧WF cells r d i
 | .put f s a b r,d,i=>(0≤f∧1≤s∧f+s≤cells)∧Gn a∧Gn b∧i=true∧WF cells r d i
 | .out a r,d,i=>Gn a∧WF cells r d i
 | .atomic b r,d,i=>i=false∧d < 3∧WF cells b (d+1) true∧WF cells r d i
 | .ES a b r,d,i=>Gn a∧d < 3∧WF cells b (d+1) i∧WF cells r d i
 | .loop n b r,d,i=>(1≤n∧n≤4)∧d < 3∧WF cells b (d+1) i∧WF cells r d i
theorem WF.Ec {cells:Int} {s t:Ck} {d:Nat} {i:Bool} (h:WF cells s d i) (k:WF cells t d i):WF cells (s.Ec t) d i:=by
 induction s generalizing d i with
 | nil=>exact k
 | set v op a b r ih=>exact⟨h.1,h.2.1,h.2.2.1,h.2.2.2.1,ih h.2.2.2.2 k⟩
 | get v f s a r ih=>exact⟨h.1,h.2.1,h.2.2.1,h.2.2.2.1,ih h.2.2.2.2 k⟩
 | put f s a b r ih=>exact⟨h.1,h.2.1,h.2.2.1,h.2.2.2.1,ih h.2.2.2.2 k⟩
 | out a r ih=>exact⟨h.1,ih h.2 k⟩
 | atomic b r _ ih=>exact⟨h.1,h.2.1,h.2.2.1,ih h.2.2.2 k⟩
 | ES a b r _ ih=>exact⟨h.1,h.2.1,h.2.2.1,ih h.2.2.2 k⟩
 | loop n b r _ ih=>exact⟨h.1,h.2.1,h.2.2.1,ih h.2.2.2 k⟩
structure CB (c:Eh):Prop where
 ll:c.CZ.length=c.CJ.length
 l1:1≤c.CZ.length
 l4:c.CZ.length≤4
 ob:∀x,x∈c.CZ→0≤x∧x≤64
 ib:∀x,x∈c.CJ→0≤x∧x≤64
def Ik:Eh→List Nd→Prop
 | c,[]=>CB c
 | c,x::r=>CB c∧(x.kind=108→1≤x.n∧x.n≤4)∧Ik (c.step x) r
theorem Ik.AM {c:Eh} {l:List Nd} (h:Ik c l):CB c:=by
 cases l with
 | nil=>exact h
 | cons x r=>exact h.1
theorem J7 {c:Eh} {a b:List Nd} (h:Ik c a) (k:Ik (a.foldl Eh.step c) b):Ik c (a++b):=by
 induction a generalizing c with
 | nil=>exact k
 | cons x r ih=>exact⟨h.1,h.2.1,ih h.2.2 k⟩
theorem LX {c:Eh} {l:List Nd} (h:Ik c l) (i:Nat):CB ((l.take i).foldl Eh.step c):=by
 induction l generalizing c i with
 | nil=>cases i <;>exact h
 | cons x r ih=>
  cases i with
  | zero=>exact h.1
  | succ i=>exact ih h.2.2 i
theorem fv {c:Eh} {l:List Nd} (h:Ik c l) (i:Nat) (hi:i < l.length) (hk:l[i].kind=108):1≤l[i].n∧l[i].n≤4:=by
 induction l generalizing c i with
 | nil=>simp at hi
 | cons x r ih=>
  cases i with
  | zero=>exact h.2.1 hk
  | succ i=>exact ih h.2.2 i (by simpa using hi) hk
structure CT (c:Eh) (os is_:List Int) (n m:Int):Prop where
 o:c.CZ=os++[n]
 i:c.CJ=is_++[m]
 l:os.length=is_.length
 l3:os.length≤3
 ob:∀x,x∈os→0≤x∧x≤64
 ib:∀x,x∈is_→0≤x∧x≤64
 n0:0≤n
 n1:n≤4 ^ os.length
 m0:0≤m
 m1:m≤4 ^ os.length
theorem nG {k:Nat} (h:k≤3):(1:Int)≤4 ^ k∧(4:Int) ^ k≤64:=by
 have:k=0∨k=1∨k=2∨k=3:=by omega
 rcases this with rfl | rfl | rfl | rfl <;>decide
theorem CT.cb {c:Eh} {os is_:List Int} {n m:Int} (h:CT c os is_ n m):CB c:=by
 have hp:=(nG h.l3).2;have:=h.n1;have:=h.m1;have:=h.n0;have:=h.m0;have:=h.l3;have:=h.l;refine⟨by rw[h.o,h.i];simp[h.l],by rw[h.o];simp,by rw[h.o];simp;omega,fun x hx=> ?_,fun x hx=> ?_⟩
 ·rw[h.o,List.mem_append,List.mem_singleton] at hx;rcases hx with hx | rfl
  ·exact h.ob x hx
  ·omega
 ·rw[h.i,List.mem_append,List.mem_singleton] at hx;rcases hx with hx | rfl
  ·exact h.ib x hx
  ·omega
theorem CT.push {c:Eh} {os is_:List Int} {n m:Int} (h:CT c os is_ n m) (h2:os.length≤2) {k:Int} (hk:1≤k∧k≤4) (b:Bool) {c':Eh} (ho:c'.CZ=c.CZ++[n*k]) (hi:c'.CJ=c.CJ++[if b then m*k else 1]):
  CT c' (os++[n]) (is_++[m]) (n*k) (if b then m*k else 1):=by
 have hp:=(nG h.l3);have hn:=h.n1;have hm:=h.m1;have Gb:=h.n0;have V6:=h.m0;have rB:(4:Int) ^ (os++[n]).length=4 ^ os.length*4:=by rw[List.length_append,List.length_singleton,Int.pow_succ]
 have hmul:∀x:Int,0≤x→x≤4 ^ os.length→0≤x*k∧x*k≤4 ^ os.length*4:=fun x h0 h1=>⟨Int.mul_nonneg h0 (by omega),Int.mul_le_mul h1 hk.2 (by omega) (by omega)⟩
 refine⟨by rw[ho,h.o],by rw[hi,h.i],by simp[h.l],by simp;omega,?_,?_,(hmul n Gb hn).1,by rw[rB];exact(hmul n Gb hn).2,?_,?_⟩
 ·intro x hx;rw[List.mem_append,List.mem_singleton] at hx;rcases hx with hx | rfl
  ·exact h.ob x hx
  ·omega
 ·intro x hx;rw[List.mem_append,List.mem_singleton] at hx;rcases hx with hx | rfl
  ·exact h.ib x hx
  ·omega
 ·cases b
  ·simp
  ·exact(hmul m V6 hm).1
 ·rw[rB];cases b
  ·simp;omega
  ·exact(hmul m V6 hm).2
theorem CT.same {c:Eh} {os is_:List Int} {n m:Int} (h:CT c os is_ n m) {c':Eh} (ho:c'.CZ=c.CZ) (hi:c'.CJ=c.CJ):CT c' os is_ n m:=
 ⟨ho.trans h.o,hi.trans h.i,h.l,h.l3,h.ob,h.ib,h.n0,h.n1,h.m0,h.m1⟩
theorem CT.qK {c:Eh} {os is_:List Int} {n m:Int} (h:CT c os is_ n m) {c':Eh} (ho:c'.CZ=c.CZ) (hi:c'.CJ=c.CJ.dropLast++[1]):CT c' os is_ n 1:=by
 refine⟨ho.trans h.o,by rw[hi,h.i,List.dropLast_concat],h.l,h.l3,h.ob,h.ib,h.n0,h.n1,by omega,(nG h.l3).1⟩
theorem Jd {c:Eh} {x:Nd} (h:x.kind≠108∧x.kind≠98∧x.kind≠40):(c.step x).CZ=c.CZ∧(c.step x).CJ=c.CJ:=by
 unfold Eh.step;simp only[h.1,h.2.1,h.2.2,if_false];split
 ·exact⟨rfl,rfl⟩
 ·split
  ·split <;>exact⟨rfl,rfl⟩
  ·exact⟨rfl,rfl⟩
theorem bK (cells:Int) (t:Ck):∀(d p:Nat) (c:Eh) (CJ:Bool) (os is_:List Int) (n m:Int),WF cells t d CJ→CT c os is_ n m→os.length≤d→d≤3→
  Ik c (B4 t d p)∧∃m',CT ((B4 t d p).foldl Eh.step c) os is_ n m':=by
 induction t with
 | nil=>intro d p c CJ os is_ n m _ h _ _;exact⟨h.cb,m,h⟩
 | set v op a b r ih=>
  intro d p c CJ os is_ n m hw h hd h3;have hs:= @Jd c {Nd.of 115 with v:=v,op:=op,a:=a,b:=b} ⟨by simp[Nd.of],by simp[Nd.of],by simp[Nd.of]⟩;obtain⟨i1,i2⟩:=ih d (p+1) _ CJ os is_ n m hw.2.2.2.2 (h.same hs.1 hs.2) hd h3;exact⟨⟨h.cb,by simp[Nd.of],i1⟩,i2⟩
 | get v f s a r ih=>
  intro d p c CJ os is_ n m hw h hd h3;have hs:= @Jd c {Nd.of 103 with v:=v,first:=f,size:=s,A5:=a} ⟨by simp[Nd.of],by simp[Nd.of],by simp[Nd.of]⟩;obtain⟨i1,i2⟩:=ih d (p+1) _ CJ os is_ n m hw.2.2.2.2 (h.same hs.1 hs.2) hd h3;exact⟨⟨h.cb,by simp[Nd.of],i1⟩,i2⟩
 | put f s i a r ih=>
  intro d p c CJ os is_ n m hw h hd h3;have hs:= @Jd c {Nd.of 112 with a:=a,first:=f,size:=s,A5:=i} ⟨by simp[Nd.of],by simp[Nd.of],by simp[Nd.of]⟩;obtain⟨i1,i2⟩:=ih d (p+1) _ CJ os is_ n m hw.2.2.2.2 (h.same hs.1 hs.2) hd h3;exact⟨⟨h.cb,by simp[Nd.of],i1⟩,i2⟩
 | out a r ih=>
  intro d p c CJ os is_ n m hw h hd h3;have hs:= @Jd c {Nd.of 111 with a:=a} ⟨by simp[Nd.of],by simp[Nd.of],by simp[Nd.of]⟩;obtain⟨i1,i2⟩:=ih d (p+1) _ CJ os is_ n m hw.2 (h.same hs.1 hs.2) hd h3;exact⟨⟨h.cb,by simp[Nd.of],i1⟩,i2⟩
 | ES a b r ihb ihr=>
  intro d p c CJ os is_ n m hw h hd h3;have hs:= @Jd c {Nd.of 122 with a:=a,Aj:=d,C2:=(p+1+EP b:Nat)} ⟨by simp[Nd.of],by simp[Nd.of],by simp[Nd.of]⟩;obtain⟨i1,m',i2⟩:=ihb (d+1) (p+1) _ CJ os is_ n m hw.2.2.1 (h.same hs.1 hs.2) (by omega) (by have:=hw.2.1;omega);obtain⟨j1,j2⟩:=ihr d (p+1+EP b) _ CJ os is_ n m' hw.2.2.2 i2 hd h3;refine⟨⟨h.cb,by simp[Nd.of],J7 i1 j1⟩,?_⟩;simp only[B4,List.foldl_cons,List.foldl_append];exact j2
 | atomic b r ihb ihr=>
  intro d p c CJ os is_ n m hw h hd h3;have h1:CT (c.step {Nd.of 40 with Aj:=d,C2:=(p+1+EP b+1:Nat)}) os is_ n 1:=h.qK (by simp[Eh.step,Nd.of]) (by simp[Eh.step,Nd.of]);obtain⟨i1,m',i2⟩:=ihb (d+1) (p+1) _ true os is_ n 1 hw.2.2.1 h1 (by omega) (by have:=hw.2.1;omega);have hs:= @Jd ((B4 b (d+1) (p+1)).foldl Eh.step (c.step {Nd.of 40 with Aj:=d,C2:=(p+1+EP b+1:Nat)})) (.of 41) ⟨by simp[Nd.of],by simp[Nd.of],by simp[Nd.of]⟩;obtain⟨j1,j2⟩:=ihr d (p+1+EP b+1) _ CJ os is_ n m' hw.2.2.2 (i2.same hs.1 hs.2) hd h3;refine⟨⟨h.cb,by simp[Nd.of],J7 i1 ⟨i2.cb,by simp[Nd.of],j1⟩⟩,?_⟩;simp only[B4,List.foldl_cons,List.foldl_append];exact j2
 | loop k b r ihb ihr=>
  intro d p c CJ os is_ n m hw h hd h3;have FA:(c.CZ.getLast?).getD 0=n:=by rw[h.o];simp
  have Pa:(c.CJ.getLast?).getD 0=m:=by rw[h.i];simp
  have h1:CT (c.step {Nd.of 108 with n:=k,Aj:=d,C2:=(p+1+EP b+1:Nat)}) (os++[n]) (is_++[m]) (n*k) (if c.EU then m*k else 1):=
   h.push (by have:=hw.2.1;omega) hw.1 c.EU (by simp[Eh.step,Nd.of,FA]) (by simp[Eh.step,Nd.of,Pa])
  obtain⟨i1,m',i2⟩:=ihb (d+1) (p+1) _ CJ _ _ _ _ hw.2.2.1 h1 (by simp;omega) (by have:=hw.2.1;omega);have h2:CT (((B4 b (d+1) (p+1)).foldl Eh.step (c.step {Nd.of 108 with n:=k,Aj:=d,C2:=(p+1+EP b+1:Nat)})).step {Nd.of 98 with C2:=(p+1:Nat),Aj:=d}) os is_ n m:=by
   generalize (B4 b (d+1) (p+1)).foldl Eh.step (c.step {Nd.of 108 with n:=k,Aj:=d,C2:=(p+1+EP b+1:Nat)})=q at i2;refine⟨?_,?_,h.l,h.l3,h.ob,h.ib,h.n0,h.n1,h.m0,h.m1⟩
   ·show q.CZ.dropLast=_;rw[i2.o,List.dropLast_concat]
   ·show q.CJ.dropLast=_;rw[i2.i,List.dropLast_concat]
  obtain⟨j1,j2⟩:=ihr d (p+1+EP b+1) _ CJ os is_ n m hw.2.2.2 h2 hd h3;refine⟨⟨h.cb,fun _=>hw.1,J7 i1 ⟨i2.cb,by simp[Nd.of],j1⟩⟩,?_⟩;simp only[B4,List.foldl_cons,List.foldl_append];exact j2
theorem pz (cells:Int) (t:Ck):∀(d p:Nat) (c:Eh) (os is_:List Int) (n m:Int),WF cells t d true→CT c os is_ n m→os.length≤d→d≤3→c.EU=true→c.C4≤c.B7→
  ∃o,Az t m=some (0,o)∧0≤o∧(B4 t d p).foldl Eh.step c={c with C4:=c.C4+o,B7:=max c.B7 (c.C4+o)}:=by
 induction t with
 | nil=>intro d p c os is_ n m _ h _ _ hi hm;exact⟨0,rfl,by omega,by simp only[B4,List.foldl_nil];rw[show max c.B7 (c.C4+0)=c.B7 by omega,Int.add_zero]⟩
 | set v op a b r ih=>
  intro d p c os is_ n m hw h hd h3 hi hm;obtain⟨o,i1,i2,i3⟩:=ih d (p+1) c os is_ n m hw.2.2.2.2 h hd h3 hi hm;refine⟨o,i1,i2,?_⟩;simp only[B4,List.foldl_cons];rw[show c.step {Nd.of 115 with v:=v,op:=op,a:=a,b:=b}=c by simp[Eh.step,Nd.of]];exact i3
 | get v f s a r ih=>
  intro d p c os is_ n m hw h hd h3 hi hm;obtain⟨o,i1,i2,i3⟩:=ih d (p+1) c os is_ n m hw.2.2.2.2 h hd h3 hi hm;refine⟨o,i1,i2,?_⟩;simp only[B4,List.foldl_cons];rw[show c.step {Nd.of 103 with v:=v,first:=f,size:=s,A5:=a}=c by simp[Eh.step,Nd.of]];exact i3
 | put f s i a r ih=>
  intro d p c os is_ n m hw h hd h3 hi hm;obtain⟨o,i1,i2,i3⟩:=ih d (p+1) c os is_ n m hw.2.2.2.2 h hd h3 hi hm;refine⟨o,i1,i2,?_⟩;simp only[B4,List.foldl_cons];rw[show c.step {Nd.of 112 with a:=a,first:=f,size:=s,A5:=i}=c by simp[Eh.step,Nd.of]];exact i3
 | out a r ih=>
  intro d p c os is_ n m hw h hd h3 hi hm;have Pa:(c.CJ.getLast?).getD 0=m:=by rw[h.i];simp
  have e:c.step {Nd.of 111 with a:=a}={c with C4:=c.C4+m,B7:=max c.B7 (c.C4+m)}:=by
   unfold Eh.step;simp[Nd.of,hi,Pa];split <;>omega
  have V6:=h.m0;obtain⟨o,i1,i2,i3⟩:=ih d (p+1) {c with C4:=c.C4+m,B7:=max c.B7 (c.C4+m)} os is_ n m hw.2 (h.same rfl rfl) hd h3 hi (by simp;omega);refine⟨m+o,by simp[Az,i1],by omega,?_⟩;simp only[B4,List.foldl_cons];rw[e,i3];simp only[Eh.mk.injEq,true_and,and_true];constructor <;>omega
 | ES a b r ihb ihr=>
  intro d p c os is_ n m hw h hd h3 hi hm;obtain⟨o,i1,i2,i3⟩:=ihb (d+1) (p+1) c os is_ n m hw.2.2.1 h (by omega) (by have:=hw.2.1;omega) hi hm;obtain⟨o',j1,j2,j3⟩:=ihr d (p+1+EP b) {c with C4:=c.C4+o,B7:=max c.B7 (c.C4+o)} os is_ n m hw.2.2.2 (h.same rfl rfl) hd h3 hi (by simp;omega);refine⟨o+o',by simp[Az,i1,j1],by omega,?_⟩;simp only[B4,List.foldl_cons,List.foldl_append];rw[show c.step {Nd.of 122 with a:=a,Aj:=d,C2:=(p+1+EP b:Nat)}=c by simp[Eh.step,Nd.of],i3,j3];simp only[Eh.mk.injEq,true_and,and_true];constructor <;>omega
 | atomic b r ihb ihr=>intro d p c os is_ n m hw;exact absurd hw.1 (by decide)
 | loop k b r ihb ihr=>
  intro d p c os is_ n m hw h hd h3 hi hm;have FA:(c.CZ.getLast?).getD 0=n:=by rw[h.o];simp
  have Pa:(c.CJ.getLast?).getD 0=m:=by rw[h.i];simp
  have h1:CT (c.step {Nd.of 108 with n:=k,Aj:=d,C2:=(p+1+EP b+1:Nat)}) (os++[n]) (is_++[m]) (n*k) (m*k):=by
   have:=h.push (by have:=hw.2.1;omega) hw.1 true (c':=c.step {Nd.of 108 with n:=k,Aj:=d,C2:=(p+1+EP b+1:Nat)}) (by simp[Eh.step,Nd.of,FA]) (by simp[Eh.step,Nd.of,Pa,hi]);simpa using this
  have e1:c.step {Nd.of 108 with n:=k,Aj:=d,C2:=(p+1+EP b+1:Nat)}={c with CZ:=c.CZ++[n*k],CJ:=c.CJ++[m*k]}:=by simp[Eh.step,Nd.of,FA,Pa,hi]
  rw[e1] at h1;obtain⟨o,i1,i2,i3⟩:=ihb (d+1) (p+1) _ _ _ _ _ hw.2.2.1 h1 (by simp;omega) (by have:=hw.2.1;omega) hi hm;obtain⟨o',j1,j2,j3⟩:=ihr d (p+1+EP b+1) {c with C4:=c.C4+o,B7:=max c.B7 (c.C4+o)} os is_ n m hw.2.2.2 (h.same rfl rfl) hd h3 hi (by simp;omega);refine⟨o+o',by simp[Az,i1,j1],by omega,?_⟩;simp only[B4,List.foldl_cons,List.foldl_append];rw[e1,i3];rw[show Eh.step {blocks:=c.blocks,C4:=c.C4+o,B7:=max c.B7 (c.C4+o),CZ:=c.CZ++[n*k],CJ:=c.CJ++[m*k],EU:=c.EU} {Nd.of 98 with C2:=(p+1:Nat),Aj:=d}={c with C4:=c.C4+o,B7:=max c.B7 (c.C4+o)} by simp[Eh.step,Nd.of],j3];simp only[Eh.mk.injEq,true_and,and_true];constructor <;>omega
theorem lK (cells:Int) (t:Ck):∀(d p:Nat) (c:Eh) (os is_:List Int) (n:Int),WF cells t d false→CT c os is_ n 1→os.length≤d→d≤3→c.EU=false→0≤c.B7→
  ∃B O M,(B4 t d p).foldl Eh.step c={c with blocks:=B,C4:=O,B7:=M}∧0≤M∧(M≤8↔c.B7≤8∧(Az t n).isSome=true)∧∀b o,Az t n=some (b,o)→B=c.blocks+b:=by
 induction t with
 | nil=>intro d p c os is_ n _ h _ _ hi hm;exact⟨c.blocks,c.C4,c.B7,rfl,hm,by simp[Az],by simp[Az]⟩
 | set v op a b r ih=>
  intro d p c os is_ n hw h hd h3 hi hm;obtain⟨B,O,M,i1,i2⟩:=ih d (p+1) c os is_ n hw.2.2.2.2 h hd h3 hi hm;refine⟨B,O,M,?_,i2⟩;simp only[B4,List.foldl_cons];rw[show c.step {Nd.of 115 with v:=v,op:=op,a:=a,b:=b}=c by simp[Eh.step,Nd.of]];exact i1
 | get v f s a r ih=>intro d p c os is_ n hw;exact absurd hw.2.2.2.1 (by decide)
 | put f s i a r ih=>intro d p c os is_ n hw;exact absurd hw.2.2.2.1 (by decide)
 | out a r ih=>
  intro d p c os is_ n hw h hd h3 hi hm;obtain⟨B,O,M,i1,i2,i3,i4⟩:=ih d (p+1) c os is_ n hw.2 h hd h3 hi hm;refine⟨B,O,M,?_,i2,?_,?_⟩
  ·simp only[B4,List.foldl_cons];rw[show c.step {Nd.of 111 with a:=a}=c by simp[Eh.step,Nd.of,hi]];exact i1
  ·rw[i3];simp only[Az];cases Az r n with
   | none=>simp
   | some q=>simp
  ·intro b o hb;simp only[Az] at hb;cases hc:Az r n with
   | none=>rw[hc] at hb;cases hb
   | some q=>
    rw[hc] at hb;simp only[Option.some.injEq,Prod.mk.injEq] at hb;rw[i4 q.1 q.2 hc,hb.1]
 | ES a b r ihb ihr=>
  intro d p c os is_ n hw h hd h3 hi hm;obtain⟨B,O,M,i1,i2,i3,i4⟩:=ihb (d+1) (p+1) c os is_ n hw.2.2.1 h (by omega) (by have:=hw.2.1;omega) hi hm;obtain⟨B',O',M',j1,j2,j3,j4⟩:=ihr d (p+1+EP b) {c with blocks:=B,C4:=O,B7:=M} os is_ n hw.2.2.2 (h.same rfl rfl) hd h3 hi i2;refine⟨B',O',M',?_,j2,?_,?_⟩
  ·simp only[B4,List.foldl_cons,List.foldl_append];rw[show c.step {Nd.of 122 with a:=a,Aj:=d,C2:=(p+1+EP b:Nat)}=c by simp[Eh.step,Nd.of],i1,j1]
  ·rw[j3];show M≤8∧_↔_;rw[i3];simp only[Az];cases Az b n with
   | none=>simp
   | some q=>cases Az r n <;>simp
  ·intro x o hb;simp only[Az] at hb;cases hc:Az b n with
   | none=>rw[hc] at hb;cases hb
   | some q=>
    rw[hc] at hb;cases iB:Az r n with
    | none=>rw[iB] at hb;cases hb
    | some q'=>
     rw[iB] at hb;simp only[Option.some.injEq,Prod.mk.injEq] at hb;rw[j4 q'.1 q'.2 iB];show B+q'.1=_;rw[i4 q.1 q.2 hc,←hb.1];omega
 | atomic b r ihb ihr=>
  intro d p c os is_ n hw h hd h3 hi hm;have FA:(c.CZ.getLast?).getD 0=n:=by rw[h.o];simp
  have e1:c.step {Nd.of 40 with Aj:=d,C2:=(p+1+EP b+1:Nat)}={c with blocks:=c.blocks+n,C4:=0,EU:=true}:=by
   simp[Eh.step,Nd.of,FA,h.i]
  obtain⟨o,a1,a2,a3⟩:=pz cells b (d+1) (p+1) {c with blocks:=c.blocks+n,C4:=0,EU:=true} os is_ n 1 hw.2.2.1 (h.same rfl rfl) (by omega) (by have:=hw.2.1;omega) rfl hm;obtain⟨B',O',M',j1,j2,j3,j4⟩:=ihr d (p+1+EP b+1) {c with blocks:=c.blocks+n,C4:=0+o,B7:=max c.B7 (0+o)} os is_ n hw.2.2.2 (h.same rfl rfl) hd h3 hi (by simp;omega);refine⟨B',O',M',?_,j2,?_,?_⟩
  ·simp only[B4,List.foldl_cons,List.foldl_append];rw[e1,a3];rw[show Eh.step {blocks:=c.blocks+n,C4:=0+o,B7:=max c.B7 (0+o),CZ:=c.CZ,CJ:=c.CJ,EU:=true} (Nd.of 41)={c with blocks:=c.blocks+n,C4:=0+o,B7:=max c.B7 (0+o)} by simp[Eh.step,Nd.of,hi],j1]
  ·rw[j3];show max c.B7 (0+o)≤8∧_↔_;simp only[Az,a1];by_cases h8:8 < o
   ·simp only[h8,if_true];constructor
    ·intro hh;have:=hh.1;omega
    ·simp
   ·simp only[h8,if_false];cases Az r n with
    | none=>simp
    | some q=>simp;omega
  ·intro x o' hb;simp only[Az,a1] at hb;split at hb
   ·cases hb
   ·cases iB:Az r n with
    | none=>rw[iB] at hb;cases hb
    | some q'=>
     rw[iB] at hb;simp only[Option.some.injEq,Prod.mk.injEq] at hb;rw[j4 q'.1 q'.2 iB];show c.blocks+n+q'.1=_;omega
 | loop k b r ihb ihr=>
  intro d p c os is_ n hw h hd h3 hi hm;have FA:(c.CZ.getLast?).getD 0=n:=by rw[h.o];simp
  have h1:CT (c.step {Nd.of 108 with n:=k,Aj:=d,C2:=(p+1+EP b+1:Nat)}) (os++[n]) (is_++[1]) (n*k) 1:=by
   have:=h.push (by have:=hw.2.1;omega) hw.1 false (c':=c.step {Nd.of 108 with n:=k,Aj:=d,C2:=(p+1+EP b+1:Nat)}) (by simp[Eh.step,Nd.of,FA]) (by simp[Eh.step,Nd.of,hi]);simpa using this
  have e1:c.step {Nd.of 108 with n:=k,Aj:=d,C2:=(p+1+EP b+1:Nat)}={c with CZ:=c.CZ++[n*k],CJ:=c.CJ++[1]}:=by simp[Eh.step,Nd.of,FA,hi]
  rw[e1] at h1;obtain⟨B,O,M,i1,i2,i3,i4⟩:=ihb (d+1) (p+1) _ _ _ _ hw.2.2.1 h1 (by simp;omega) (by have:=hw.2.1;omega) hi hm;obtain⟨B',O',M',j1,j2,j3,j4⟩:=ihr d (p+1+EP b+1) {c with blocks:=B,C4:=O,B7:=M} os is_ n hw.2.2.2 (h.same rfl rfl) hd h3 hi i2;refine⟨B',O',M',?_,j2,?_,?_⟩
  ·simp only[B4,List.foldl_cons,List.foldl_append];rw[e1,i1];rw[show Eh.step {blocks:=B,C4:=O,B7:=M,CZ:=c.CZ++[n*k],CJ:=c.CJ++[1],EU:=c.EU} {Nd.of 98 with C2:=(p+1:Nat),Aj:=d}={c with blocks:=B,C4:=O,B7:=M} by simp[Eh.step,Nd.of],j1]
  ·rw[j3];show M≤8∧_↔_;rw[i3];simp only[Az];cases Az b (n*k) with
   | none=>simp
   | some q=>cases Az r n <;>simp
  ·intro x o hb;simp only[Az] at hb;cases hc:Az b (n*k) with
   | none=>rw[hc] at hb;cases hb
   | some q=>
    rw[hc] at hb;cases iB:Az r n with
    | none=>rw[iB] at hb;cases hb
    | some q'=>
     rw[iB] at hb;simp only[Option.some.injEq,Prod.mk.injEq] at hb;rw[j4 q'.1 q'.2 iB];show B+q'.1=_;rw[i4 q.1 q.2 hc,←hb.1];simp;omega
theorem CT.Dk:CT .Dk [] [] 1 1:=⟨rfl,rfl,rfl,by simp,by simp,by simp,by omega,by simp,by omega,by simp⟩
theorem Zr {cells:Int} {t:Ck} (h:WF cells t 0 false):(decide (3 < (Gt (B4 t 0 0)).1) || decide (8 < (Gt (B4 t 0 0)).2))= !(match Az t 1 with | none=>false | some (b,_)=>decide (b≤3)):=by
 obtain⟨B,O,M,h1,h2,h3,h4⟩:=lK cells t 0 0 .Dk [] [] 1 h .Dk (by simp) (by omega) rfl (by simp[Eh.Dk]);unfold Gt;simp only[h1];cases hc:Az t 1 with
 | none=>
  rw[hc] at h3;simp at h3;simp;omega
 | some q=>
  rw[hc] at h3;have h5:=h4 q.1 q.2 hc;simp[Eh.Dk] at h3 h5;obtain⟨b,o⟩:=q;have h5':B=b:=h5;subst h5';show(decide (3 < B) || decide (8 < M))= !decide (B≤3);have h8:¬8 < M:=by omega
  by_cases h6:3 < B
  ·have h7:¬B≤3:=by omega
   simp only[h6,h7,decide_true,decide_false,Bool.true_or,Bool.not_false]
  ·have h7:B≤3:=by omega
   simp only[h6,h7,h8,decide_true,decide_false,Bool.false_or,Bool.not_true]
theorem kE {cells:Int} {t:Ck} (h:WF cells t 0 false):Ik .Dk (B4 t 0 0):=(bK cells t 0 0 .Dk false [] [] 1 1 h .Dk (by simp) (by omega)).1
end Go.Proofs.YtpdfifdlhpmofaaGreatDoor
