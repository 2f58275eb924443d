import Derived.Test.YtkdjapahgmflbaaGreatDW88
import Derived.Test.YtkdjapahgmflbaaGreatDW93
import Derived.Test.YtkdjapahgmflbaaGreatDW94
set_option linter.unusedSimpArgs false
set_option linter.unusedVariables false
set_option maxHeartbeats 4000000
set_option maxRecDepth 20000
namespace Go.Proofs.YtkdjapahgmflbaaGreat
open Go Go.Ab
attribute[local irreducible] cZ
section
def Qp (x0 x1:AV):Prog:=Lf 29 x0 fun a=>Ix 12 a x1 fun a=>Lf 14 x0 fun b=>Lf 8 a fun c=>.op (.alloc [.int .i64 0,.int .i64 0,.int .i64 0,.aC]) fun d=>Cl Dz [b,c] fun b=>.chk (.alloc [.int .i64 0,.int .i64 0,.int .i64 0,.aC]) d (.op (.ext b 0) fun c=>.op (.ext b 1) fun b=>.op (.st 4 d c) fun _=>Gf b true 1 d fun c=>.gop b true (.mv a) fun e=>.gop b true (.bg e) fun e=>Gf b true 9 e fun e=>.gop b true (.bin 0 .eql c e) fun c=>Pk b c (.bool false) fun b=>.gop b true (.mv x0) fun c=>.gop b true (.bg c) fun c=>.gop b true (.fad 21 c) fun c=>.gop b true (.ld1 c) fun e=>.gop b true (.mv a) fun f=>.gop b true (.bg f) fun f=>.gop b true (.fad 2 f) fun f=>.gop b true (.ldn 6 f) fun f=>.gop b true (.mv x0) fun i=>.gop b true (.bg i) fun i=>.gop b true (.fad 0 i) fun i=>.gop b true (.fad 2 i) fun i=>.gop b true (.ld1 i) fun j=>.gop b true (.call kJ [f]) fun f=>.kC b true (.ld1 c) e (.kC b true (.ld1 i) j (.gop b true (.bin 0 .add e f) fun c=>.gop b true (.bin 0 .gtr c j) fun c=>Pk b c (.bool false) fun b=>.scope (.ite b (Ld 4 d fun a=>Cl FN [x0,a,.bool false] fun a=>.op (.bg x0) fun b=>.op (.fad 22 b) fun b=>Ld 4 b fun b=>Lg 1 d fun c=>Cl KV [b,c] fun b=>.op (.ext b 0) fun c=>.op (.ext b 1) fun _=>.op (.bg x0) fun b=>.op (.fad 22 b) fun b=>.op (.st 4 b c) fun _=>Lf 30 x0 fun b=>Lg 0 d fun c=>Lg 1 d fun e=>Lg 3 d fun d=>Ln 0 d fun d=>.op (.bg x0) fun f=>.op (.fad 22 f) fun f=>Lg 0 f fun f=>Lf 12 x0 fun i=>Lf 12 x0 fun j=>Lf 12 x0 fun k=>.op (.build iV [(0,1,.int .i64 3),(1,1,x1),(8,1,c),(9,1,e),(14,1,d),(15,1,a),(16,1,f),(17,1,i),(18,1,j),(19,1,k)]) fun a=>.op (.aU 20 1 iV [(0,20,a)]) fun a=>.op (.app 20 168 b a) fun a=>Sf 30 x0 a fun _=>.leaf 0 []) (.leaf 0 [])) (fun _=>Cl wW [x0,x1] fun _=>Sf 1 a (.int .i64 0) fun _=>Sf 8 a (.int .i64 0) fun _=>Sf 9 a (.int .i64 0) fun _=>.fin []) fun a b=>aB a 1 (.leaf 1 b) .bad)))
theorem adA (x0 x1:AV):CC Tryz.prog JO [x0,x1] (Qp x0 x1):=cc Tryz.func121 [0,1,4] (fun r=>if r=1 then[(0,[]),(1,[]),(2,[]),(3,[]),(4,[]),(5,[]),(6,[]),(7,[]),(12,[]),(8,[12]),(9,[]),(10,[]),(11,[]),(13,[]),(14,[])] else if r=2 then[(0,[]),(1,[]),(2,[]),(3,[]),(4,[]),(5,[]),(6,[]),(7,[]),(8,[]),(9,[]),(10,[]),(11,[]),(12,[]),(13,[]),(14,[]),(15,[]),(16,[]),(17,[]),(18,[]),(21,[]),(22,[]),(23,[]),(24,[]),(25,[]),(19,[14,25]),(20,[]),(26,[]),(27,[])] else if r=4 then[(0,[]),(1,[]),(2,[]),(3,[]),(4,[]),(5,[]),(6,[]),(7,[]),(8,[]),(9,[]),(10,[]),(11,[]),(12,[]),(13,[])] else if r=5 then[(0,[]),(1,[]),(2,[]),(3,[]),(4,[]),(5,[]),(6,[]),(7,[]),(8,[]),(9,[]),(10,[]),(11,[]),(12,[]),(13,[]),(14,[]),(15,[]),(16,[]),(17,[]),(18,[]),(19,[]),(20,[]),(21,[]),(22,[]),(23,[]),(24,[]),(25,[]),(26,[]),(27,[]),(28,[]),(29,[]),(30,[]),(31,[]),(32,[]),(33,[]),(34,[]),(35,[]),(36,[])] else[])
end
noncomputable def nR (x:Wld) (k:Nat) (t:Task):Wld:={jl x t k with st:=mG k (jl x t k).st,tasks:=x.tasks.set k {t with pc:=0,trace:=0,stamp:=0}}
theorem acN {h:AH} {n b k:Nat} {x:Wld} {V:WV} {F:WF} {t:Task} (w:PW n h b x V F) (ht:x.tasks[k]? =some t) (h1:1≤(x.st.length:Int)) (hs:Sz.sz x≤33554432) (hc:x.cache.length≤1048576):bN Tryz.prog JO [.ptr b 0,.int .i64 (k:Int)] h fun v h'=>v= .tup []∧kX n h.n h b F (nR x k t) h':=by
 obtain⟨v0,v1,v2,v3,v4,v5,v6,v7,v8,v9,v10⟩:=V
 have hk:k < x.tasks.length:=(List.getElem?_eq_some_iff.1 ht).1
 have hst:=tY hs
 have htk:=(vQ hs ht).1
 have hds:x.aF.length≤33554432:=by rw[wsz] at hs;omega
 have s:=w.ws
 obtain⟨b9,o9,e9⟩:=w.r9.sl ht;have e9:v9= .sl b9 o9 x.tasks.length:=e9;subst e9;have l9:b9 < _:=dZ w.r9
 have bk:=bkE w
 have hb:=bk.1
 have r1:au h v1 x.st F.f1:=w.r1
 obtain⟨dI,dJ,dU,j6,kG,ek,j5,j4,kH,iT,kF,kD,kE,jT,jk,gW⟩:=s.dL (bb:=b9) (off:=o9) ht rfl;have ek:EK Task _ _ _ b9 (o9+k * 12) [.int .i64 t.op,.int .i64 t.pc,.int .i64 t.s.trace,.int .i64 t.s.id,.int .i64 t.s.start,.int .i64 t.s.fin,.bool t.s.err,dI,.int .i64 t.trace,.int .i64 t.stamp,dJ,.int .i64 t.h] _ _ _ _:=ek
 have at9:=ek.at_
 refine adA _ _ ?_
 unfold Qp
 (repeat' first|refine vsx ?_|refine ao4 ?_|fail)
 refine aK (OW (l:=x.st) (id:=t.trace) (by omega) ah) ?_
 rintro _ h2 ⟨e2,_,G2,rfl,⟨z2,rfl,zq2⟩,oG2⟩
 have n2:=e2.1;(try simp only[aH,aN] at n2)
 by_cases hit:eG x.st t.trace=true∧(cO x.st t.trace).stamp=t.stamp∧x.c.budget < wr (x.used+dW t.s)
 ·obtain⟨hf,hsm,hov⟩:=hit
  have eD:jl x t k={mQ x (cO x.st t.trace) false with w:=iE x.w (cO x.st t.trace).stamp,aF:=x.aF++[⟨3,k,ig,(cO x.st t.trace).id,(cO x.st t.trace).stamp,0,false,false,0,(cO x.st t.trace).spans.length,iX x (cO x.st t.trace) false,x.w.now,x.time,x.time,x.time⟩]}:=by unfold jl;rw[if_pos ⟨hf,hsm,hov⟩]
  have NJ:x.c.budget < IntKind.i64.wrap (x.used+dW t.s):=hov
  obtain⟨o,ho⟩:∃ o,fq x.st t.trace=some o:=by unfold eG at hf;exact Option.isSome_iff_exists.1 hf
  have hoo:=(mV ho).1
  rw[hoo] at hsm eD zq2
  rw[hf,hoo]
  have hso:Sz.sz o≤33554432:=by
   obtain⟨yo,jo,hyo,hjo,-,-⟩:=xV ho
   have a1:=bC (List.mem_of_getElem? hyo);have a2:=bC (List.mem_of_getElem? hjo)
   have e1:Sz.sz yo=yo.l.length+szs yo.l:=rfl
   omega
  (repeat' first|(with_reducible refine eu ?_)|refine vsx ?_|(with_reducible refine aW ?_)|((with_reducible refine fU ?_);refine fT aV ?_)|(refine br ?_ ?_<;>first|exact bo|intro _)|((with_reducible refine aA kJ ?_);(refine aJ (sK (s:=t.s) (F:=dU) (by omega) ah) ?_))|fail)
  all_goals try(exfalso;first|omega|contradiction)
  refine s.now (fun s2=>?_) aD
  have hbG:b ∉ G2:=fun hm=>by have:=(oG2.2 b hm).1;(try simp only[aH,aN] at this);omega
  refine aK (Uf (o:=o) (keep:=false) s2.w (ah:au _ z2 o.spans G2) hbG (by omega) (by omega) hc) ?_
  rintro _ h3 ⟨rfl,W⟩
  obtain⟨V3,F3,s3,e3v,-,kk3,n3,m3⟩:=ni s2 W
  have nbx:∀ c,h.n≤c→c ∉ b::F.a:=fun c hc' hm=>by
   rcases List.mem_cons.1 hm with q|q
   ·omega
   ·have:=s.lt c q;omega
  have Od:Bk h3 h.n [.int .i64 o.id,.int .i64 o.stamp,.int .i64 o.first,z2] 0:=bF kk3 aV (nbx _ (by simp))
  have zq3:au h3 z2 o.spans G2:=aL kk3 (ah:au _ z2 o.spans G2) fun c hc' hm=>nbx c (by have:=(oG2.2 c hc').1;(try simp only[aH,aN] at this);omega) hm
  have n3':h.n+1≤h3.n:=by simp only[aH,aN] at n3;omega
  obtain⟨x3,hx3,s3⟩:=s3.gen
  obtain⟨v0,v1,v2,v3,v4,v5,v6,v7,v8,v9,v10⟩:=V3
  have e3v:v9= .sl b9 o9 x.tasks.length:=e3v
  subst e3v
  have w3:=s3.w
  have bk3:=bkE w3
  have hws:Sz.sz x3.w≤33554432:=by
   rw[hx3];rw[wsz] at hs;show(x.w.near.length+szs x.w.near)+(x.w.far.length+szs x.w.far)+(x.w.rest.length+szs x.w.rest)≤_;omega
  have NQ:x3.aF.length≤33554432:=by rw[hx3];exact hds
  have r3:au h3 v3 x3.w.near F3.f3:=w3.r3
  have r4:au h3 v4 x3.w.far F3.f4:=w3.r4
  have r5:au h3 v5 x3.w.rest F3.f5:=w3.r5
  clear bk at9 r1 s2 kk3 zq2 W ek m3
  (repeat' first|refine vsx ?_|(with_reducible refine aW ?_)|fail)
  refine aK (agO (w:=x3.w) (id:=o.stamp) hws (ah:au _ v3 x3.w.near F3.f3) (ah:au _ v4 x3.w.far F3.f4) (ah:au _ v5 x3.w.rest F3.f5)) ?_
  rintro _ h5 ⟨okc,e5,_,_,rfl,⟨c0,c1,c2,p0,p1,p2,rfl,rfl,q0,q1,q2⟩,o5⟩
  have n5:=e5.1;(try simp only[aH,aN] at n5)
  have op0:=dA o5;have op1:=dA (bD o5);have op2:=bD (bD o5)
  have l5:∀ c∈p0++(p1++p2),c < h5.n:=fun c hc=>by
   rcases List.mem_append.1 hc with q|q
   ·exact q0.lt c q
   rcases List.mem_append.1 q with q|q
   ·exact q1.lt c q
   ·exact q2.lt c q
  have hb3:=bk3.1
  have p5:∀ c∈p0++(p1++p2),h3.n≤c:=fun c hc=>by have:=(o5.2 c hc).1;(try simp only[aH,aN] at this);omega
  have hx0:b ∉ p0:=fun hm=>by have:=p5 b (List.mem_append_left _ hm);omega
  have hx1:b ∉ p1:=fun hm=>by have:=p5 b (List.mem_append_right _ (List.mem_append_left _ hm));omega
  have hx2:b ∉ p2:=fun hm=>by have:=p5 b (List.mem_append_right _ (List.mem_append_right _ hm));omega
  have o5L:bO _ h5 (p0++(p1++p2)):=⟨o5,l5⟩
  (repeat' first|refine vsy ?_|(with_reducible refine aW ?_)|fail)
  refine s3.Ij {x3 with w:=iE x3.w o.stamp} (ah:au _ c0 (iE x3.w o.stamp).near p0) (ah:au _ c1 (iE x3.w o.stamp).far p1) (ah:au _ c2 (iE x3.w o.stamp).rest p2) ((dN o5L (fun hm=>by have:=p5 b hm;omega)).1) (by omega) (fun x5 e5x s5=>?_)
  (repeat' first|refine vsx ?_|fail)
  have hd5:x5.aF.length≤33554432:=by rw[e5x];exact NQ
  refine s5.zn (a:=⟨3,k,ig,o.id,o.stamp,0,false,false,0,o.spans.length,iX x o false,(iE x3.w o.stamp).now,x3.time,x3.time,x3.time⟩) (G:=[]) (q:=h.n) ⟨.aC,rfl,au.aC⟩ Own.nil ⟨by have:=w.nb;omega,Nat.le_refl _⟩ (by simp) (by omega) (by omega) ?_
  intro v' h6 k6 b6 cv6 fin
  have bk6:Bk h6 b [AV.int .i64 x5.c.eU,AV.int .i64 x5.c.wait,AV.int .i64 x5.c.budget,AV.int .i64 x5.c.cache,AV.int .i64 x5.c.queue,AV.int .i64 x5.c.rate,AV.int .i64 x5.c.bn,AV.int .i64 x5.c.rule.kind,AV.int .i64 x5.c.rule.n,AV.str x5.c.rule.key,AV.str x5.c.rule.text,v0,AV.int .i64 x5.time,AV.bool x5.shut,v1,AV.int .i64 x5.bS,AV.int .i64 x5.b.rate,AV.int .i64 x5.b.bn,AV.int .i64 x5.b.tokens,AV.int .i64 x5.b.at_,v2,AV.int .i64 x5.used,AV.int .i64 x5.w.now,c0,c1,c2,v6,v7,v8,(AV.sl b9 o9 x.tasks.length),v10,AV.int .i64 x5.next] 0:=b6
  have hb6:=bk6.1
  (repeat' first|((with_reducible refine bW ?_);refine kU cv6 rfl (qQ bk6 aX) ?_)|refine vsx ?_|(with_reducible refine aW ?_)|fail)
  refine fin (fun x7 F7 e7 s7 m7=>?_) (fP hb6) rfl fO
  clear bk6 b6 Od fin k6 bk3 r3 r4 r5 q0 q1 q2 o5 op0 op1 op2 o5L
  have h1X:1≤(x7.st.length:Int):=by rw[e7,e5x,hx3];show 1≤((gN x.st o.id).length:Int);rw[yD];exact h1
  have htX:x7.tasks[k]? =some t:=by rw[e7,e5x,hx3];exact ht
  refine aK (uL s7.w h1X) ?_
  rintro _ h8 ⟨rfl,W8⟩
  obtain⟨V8,F8,s8,e8v,-,-⟩:=ni s7 W8
  obtain⟨x8,hx8,s8⟩:=s8.gen
  obtain⟨v0,v1,v2,v3,v4,v5,v6,v7,v8,v9,v10⟩:=V8
  have e8v:v9= .sl b9 o9 x.tasks.length:=e8v
  subst e8v
  have ht8:x8.tasks[k]? =some t:=by rw[hx8];exact htX
  obtain⟨bZ,bY,gF,gD,gU,et,gM,gL,gI,fZ,gT,gP,gQ,gV,fF,dH⟩:=s8.dL (bb:=b9) (off:=o9) ht8 rfl;have et:EK Task _ _ _ b9 (o9+k * 12) [.int .i64 t.op,.int .i64 t.pc,.int .i64 t.s.trace,.int .i64 t.s.id,.int .i64 t.s.start,.int .i64 t.s.fin,.bool t.s.err,bZ,.int .i64 t.trace,.int .i64 t.stamp,bY,.int .i64 t.h] _ _ _ _:=et
  (repeat' first|((with_reducible refine bW ?_);refine EK.st_ (et.ext aD) (by rfl) (by rfl) aX ?_;intro h_ et k_ n_)|refine vsw ?_|(with_reducible refine aW ?_)|fail)
  obtain⟨x9,F9,e9x,s9,m9⟩:=dH _ {t with pc:=0,trace:=0,stamp:=0} rfl rfl et
  have e:x9=nR x k t:=by rw[e9x,hx8];unfold nR;rw[eD,e7,e5x,hx3,Vz];rfl
  rw[e] at s9
  exact⟨rfl,_,rfl,rfl,s9.done⟩
 ·have eD:jl x t k=x:=by unfold jl;rw[if_neg hit]
  by_cases hf:eG x.st t.trace=true
  ·by_cases hsm:(cO x.st t.trace).stamp=t.stamp
   ·have NJ: ¬ x.c.budget < IntKind.i64.wrap (x.used+dW t.s):=fun q=>hit ⟨hf,hsm,q⟩
    rw[hf]
    (repeat' first|(with_reducible refine eu ?_)|refine vsx ?_|(with_reducible refine aW ?_)|((with_reducible refine fU ?_);refine fT aV ?_)|(refine br ?_ ?_<;>first|exact bo|intro _)|((with_reducible refine aA kJ ?_);(refine aJ (sK (s:=t.s) (F:=dU) (by omega) ah) ?_))|fail)
    all_goals try(exfalso;first|omega|contradiction)
    refine s.now (fun s2=>?_) aD
    have h1X:1≤(x.st.length:Int):=by exact h1
    have htX:x.tasks[k]? =some t:=by exact ht
    refine aK (uL s2.w h1X) ?_
    rintro _ h8 ⟨rfl,W8⟩
    obtain⟨V8,F8,s8,e8v,-,-⟩:=ni s2 W8
    obtain⟨x8,hx8,s8⟩:=s8.gen
    obtain⟨v0,v1,v2,v3,v4,v5,v6,v7,v8,v9,v10⟩:=V8
    have e8v:v9= .sl b9 o9 x.tasks.length:=e8v
    subst e8v
    have ht8:x8.tasks[k]? =some t:=by rw[hx8];exact htX
    obtain⟨bZ,bY,gF,gD,gU,et,gM,gL,gI,fZ,gT,gP,gQ,gV,fF,dH⟩:=s8.dL (bb:=b9) (off:=o9) ht8 rfl;have et:EK Task _ _ _ b9 (o9+k * 12) [.int .i64 t.op,.int .i64 t.pc,.int .i64 t.s.trace,.int .i64 t.s.id,.int .i64 t.s.start,.int .i64 t.s.fin,.bool t.s.err,bZ,.int .i64 t.trace,.int .i64 t.stamp,bY,.int .i64 t.h] _ _ _ _:=et
    (repeat' first|((with_reducible refine bW ?_);refine EK.st_ (et.ext aD) (by rfl) (by rfl) aX ?_;intro h_ et k_ n_)|refine vsw ?_|(with_reducible refine aW ?_)|fail)
    obtain⟨x9,F9,e9x,s9,m9⟩:=dH _ {t with pc:=0,trace:=0,stamp:=0} rfl rfl et
    have e:x9=nR x k t:=by rw[e9x,hx8];unfold nR;rw[eD]
    rw[e] at s9
    exact⟨rfl,_,rfl,rfl,s9.done⟩
   ·rw[hf]
    (repeat' first|refine vsx ?_|(with_reducible refine aW ?_)|((with_reducible refine fU ?_);refine fT aV ?_)|(refine br ?_ ?_<;>first|exact bo|intro _)|fail)
    all_goals try(exfalso;first|omega|contradiction)
    refine s.now (fun s2=>?_) aD
    have h1X:1≤(x.st.length:Int):=by exact h1
    have htX:x.tasks[k]? =some t:=by exact ht
    refine aK (uL s2.w h1X) ?_
    rintro _ h8 ⟨rfl,W8⟩
    obtain⟨V8,F8,s8,e8v,-,-⟩:=ni s2 W8
    obtain⟨x8,hx8,s8⟩:=s8.gen
    obtain⟨v0,v1,v2,v3,v4,v5,v6,v7,v8,v9,v10⟩:=V8
    have e8v:v9= .sl b9 o9 x.tasks.length:=e8v
    subst e8v
    have ht8:x8.tasks[k]? =some t:=by rw[hx8];exact htX
    obtain⟨bZ,bY,gF,gD,gU,et,gM,gL,gI,fZ,gT,gP,gQ,gV,fF,dH⟩:=s8.dL (bb:=b9) (off:=o9) ht8 rfl;have et:EK Task _ _ _ b9 (o9+k * 12) [.int .i64 t.op,.int .i64 t.pc,.int .i64 t.s.trace,.int .i64 t.s.id,.int .i64 t.s.start,.int .i64 t.s.fin,.bool t.s.err,bZ,.int .i64 t.trace,.int .i64 t.stamp,bY,.int .i64 t.h] _ _ _ _:=et
    (repeat' first|((with_reducible refine bW ?_);refine EK.st_ (et.ext aD) (by rfl) (by rfl) aX ?_;intro h_ et k_ n_)|refine vsw ?_|(with_reducible refine aW ?_)|fail)
    obtain⟨x9,F9,e9x,s9,m9⟩:=dH _ {t with pc:=0,trace:=0,stamp:=0} rfl rfl et
    have e:x9=nR x k t:=by rw[e9x,hx8];unfold nR;rw[eD]
    rw[e] at s9
    exact⟨rfl,_,rfl,rfl,s9.done⟩
  ·have hf':eG x.st t.trace=false:=by simpa using hf
   rw[hf']
   (repeat' first|refine vsx ?_|((with_reducible refine fU ?_);refine fT aV ?_)|fail)
   all_goals try(exfalso;first|omega|contradiction)
   refine s.now (fun s2=>?_) aD
   have h1X:1≤(x.st.length:Int):=by exact h1
   have htX:x.tasks[k]? =some t:=by exact ht
   refine aK (uL s2.w h1X) ?_
   rintro _ h8 ⟨rfl,W8⟩
   obtain⟨V8,F8,s8,e8v,-,-⟩:=ni s2 W8
   obtain⟨x8,hx8,s8⟩:=s8.gen
   obtain⟨v0,v1,v2,v3,v4,v5,v6,v7,v8,v9,v10⟩:=V8
   have e8v:v9= .sl b9 o9 x.tasks.length:=e8v
   subst e8v
   have ht8:x8.tasks[k]? =some t:=by rw[hx8];exact htX
   obtain⟨bZ,bY,gF,gD,gU,et,gM,gL,gI,fZ,gT,gP,gQ,gV,fF,dH⟩:=s8.dL (bb:=b9) (off:=o9) ht8 rfl;have et:EK Task _ _ _ b9 (o9+k * 12) [.int .i64 t.op,.int .i64 t.pc,.int .i64 t.s.trace,.int .i64 t.s.id,.int .i64 t.s.start,.int .i64 t.s.fin,.bool t.s.err,bZ,.int .i64 t.trace,.int .i64 t.stamp,bY,.int .i64 t.h] _ _ _ _:=et
   (repeat' first|((with_reducible refine bW ?_);refine EK.st_ (et.ext aD) (by rfl) (by rfl) aX ?_;intro h_ et k_ n_)|refine vsw ?_|(with_reducible refine aW ?_)|fail)
   obtain⟨x9,F9,e9x,s9,m9⟩:=dH _ {t with pc:=0,trace:=0,stamp:=0} rfl rfl et
   have e:x9=nR x k t:=by rw[e9x,hx8];unfold nR;rw[eD]
   rw[e] at s9
   exact⟨rfl,_,rfl,rfl,s9.done⟩
end Go.Proofs.YtkdjapahgmflbaaGreat
