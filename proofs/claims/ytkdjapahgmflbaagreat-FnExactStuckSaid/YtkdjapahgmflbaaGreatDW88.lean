import Derived.Test.YtkdjapahgmflbaaGreatDW87
import Derived.Test.YtkdjapahgmflbaaGreatDAb57
set_option linter.unusedSimpArgs false
set_option linter.unusedVariables false
set_option maxHeartbeats 4000000
set_option maxRecDepth 20000
namespace Go.Proofs.YtkdjapahgmflbaaGreat
open Go Go.Ab
attribute[local irreducible] cZ
section
def Q6 (x0 x1:AV):Prog:=Lf 29 x0 fun a=>Ix 12 a x1 fun a=>Ld 12 a fun a=>.op (.alloc gJ) fun b=>.op (.st 12 b a) fun _=>Lf 14 x0 fun a=>Lg 8 b fun c=>.op (.alloc [.int .i64 0,.int .i64 0,.int .i64 0,.aC]) fun d=>Cl zT [a,c] fun a=>.chk (.alloc [.int .i64 0,.int .i64 0,.int .i64 0,.aC]) d (.op (.ext a 0) fun c=>.op (.ext a 1) fun a=>.op (.st 4 d c) fun _=>Gf a true 1 d fun c=>Gf a true 9 b fun e=>.gop a true (.bin 0 .eql c e) fun c=>Pk a c (.bool false) fun a=>.gop a true (.mv x0) fun c=>.gop a true (.bg c) fun c=>.gop a true (.fad 21 c) fun c=>.gop a true (.ld1 c) fun e=>.gop a true (.fad 2 b) fun f=>.gop a true (.ldn 6 f) fun f=>.gop a true (.mv x0) fun i=>.gop a true (.bg i) fun i=>.gop a true (.fad 0 i) fun i=>.gop a true (.fad 2 i) fun i=>.gop a true (.ld1 i) fun j=>.gop a true (.call kI [f]) fun f=>.kC a true (.ld1 c) e (.kC a true (.ld1 i) j (.gop a true (.bin 0 .add e f) fun c=>.gop a true (.bin 0 .gtr c j) fun c=>Pk a c (.bool false) fun a=>.scope (.ite a (Ld 4 d fun a=>Cl zR [x0,a,.bool false] fun a=>.op (.bg x0) fun b=>.op (.fad 22 b) fun b=>Ld 4 b fun b=>Lg 1 d fun c=>.op (.alloc [.int .i64 0,.aC,.aC,.aC]) fun e=>Cl KG [b,c] fun b=>.chk (.alloc [.int .i64 0,.aC,.aC,.aC]) e (.op (.ext b 0) fun c=>.op (.ext b 1) fun _=>.op (.st 4 e c) fun _=>Ld 4 e fun b=>.op (.bg x0) fun c=>.op (.fad 22 c) fun c=>.op (.st 4 c b) fun _=>Lf 30 x0 fun b=>Lg 0 d fun c=>Lg 1 d fun e=>Lg 3 d fun d=>Ln 0 d fun d=>.op (.bg x0) fun f=>.op (.fad 22 f) fun f=>Lg 0 f fun f=>Lf 12 x0 fun i=>Lf 12 x0 fun j=>Lf 12 x0 fun k=>.op (.build iV [(0,1,.int .i64 3),(1,1,x1),(8,1,c),(9,1,e),(14,1,d),(15,1,a),(16,1,f),(17,1,i),(18,1,j),(19,1,k)]) fun a=>.op (.aU 20 1 iV [(0,20,a)]) fun a=>.op (.app 20 168 b a) fun a=>Sf 30 x0 a fun _=>.leaf 0 [])) (.leaf 0 [])) (fun _=>.op (.bg x0) fun a=>.op (.fad 14 a) fun a=>.op (.ld1 a) fun c=>Lg 8 b fun b=>Lf 14 x0 fun d=>Ln 0 d fun d=>Cl d9 [b,d] fun b=>.chk (.ld1 a) c (Ix 2 c b fun a=>.op (.fad 0 a) fun a=>.op (.st 1 a (.int .i64 (-1))) fun _=>Lf 29 x0 fun a=>Ix 12 a x1 fun a=>Sg 1 a (.int .i64 0) fun _=>Lf 29 x0 fun a=>Ix 12 a x1 fun a=>Sg 8 a (.int .i64 0) fun _=>Lf 29 x0 fun a=>Ix 12 a x1 fun a=>Sg 9 a (.int .i64 0) fun _=>.fin [])) fun a b=>aB a 1 (.leaf 1 b) .bad)))
theorem ae2 (x0 x1:AV):CC Tryz.prog Kc [x0,x1] (Q6 x0 x1):=cc Tryz.func235 [0,1,4] (fun r=>if r=1 then[(0,[]),(1,[]),(2,[]),(3,[]),(4,[]),(5,[]),(10,[]),(6,[10]),(7,[]),(8,[]),(9,[]),(11,[]),(12,[])] else if r=2 then[(0,[]),(1,[]),(2,[]),(3,[]),(4,[]),(5,[]),(6,[]),(7,[]),(8,[]),(9,[]),(10,[]),(11,[]),(12,[]),(13,[]),(14,[]),(17,[]),(18,[]),(19,[]),(20,[]),(21,[]),(15,[12,21]),(16,[]),(22,[]),(23,[])] else if r=4 then[(0,[]),(1,[]),(2,[]),(3,[]),(4,[]),(5,[]),(10,[]),(6,[10]),(7,[]),(8,[]),(9,[]),(11,[]),(12,[])] else if r=6 then[(0,[]),(1,[]),(2,[]),(3,[]),(4,[]),(5,[]),(6,[]),(7,[]),(8,[]),(9,[]),(10,[]),(11,[]),(12,[]),(13,[]),(14,[]),(15,[]),(16,[]),(17,[]),(18,[]),(19,[]),(20,[]),(21,[]),(22,[]),(23,[]),(24,[]),(25,[]),(26,[]),(27,[]),(28,[]),(29,[]),(30,[]),(31,[]),(32,[]),(33,[]),(34,[]),(35,[]),(36,[])] else if r=7 then[(0,[]),(1,[]),(2,[]),(3,[]),(4,[]),(5,[]),(6,[]),(7,[]),(8,[]),(9,[]),(10,[]),(11,[3]),(12,[]),(13,[]),(14,[])] else[])
end
theorem Vz {w:bX} {id:Int}:(iE w id).now=w.now:=by unfold iE;split<;>rfl
theorem GK {x:Wld} {k:Nat} {t:Task} {z:Wld} {y:aQ} (hz:z=jl x t k) (hy:z.st[(stripe t.trace z.st.length).toNat]? =some y) (hx:z.tasks=x.tasks):ng x k t={z with st:=z.st.set (stripe t.trace z.st.length).toNat {y with held:=-1},tasks:=z.tasks.set k {t with pc:=0,trace:=0,stamp:=0}}:=by
 unfold ng;rw[←hz,qC hy,hx]
theorem adU {h:AH} {n b k:Nat} {x:Wld} {V:WV} {F:WF} {t:Task} (w:PW n h b x V F) (ht:x.tasks[k]? =some t) (h1:1≤(x.st.length:Int)) (hs:Sz.sz x≤33554432) (hc:x.cache.length≤1048576):bN Tryz.prog Kc [.ptr b 0,.int .i64 (k:Int)] h fun v h'=>v= .tup []∧kX n h.n h b F (ng x k t) h':=by
 obtain⟨v0,v1,v2,v3,v4,v5,v6,v7,v8,v9,v10⟩:=V
 have hk:k < x.tasks.length:=(List.getElem?_eq_some_iff.1 ht).1
 have hst:=tY hs
 have htk:=(vQ hs ht).1
 have hds:x.aF.length≤33554432:=by rw[wsz] at hs;omega
 have s:=w.ws
 obtain⟨b9,o9,e9⟩:=w.r9.sl ht;have e9:v9= .sl b9 o9 x.tasks.length:=e9;subst e9;have l9:b9 < _:=dZ w.r9
 have bk:=bkE w
 have hb:=bk.1
 have r1:au h v1 x.st F.f1:=w.r1
 obtain⟨dI,dJ,dU,j6,kG,ek,j5,j4,kH,iT,kF,kD,kE,jT,jk,gW⟩:=s.dL (bb:=b9) (off:=o9) ht rfl;have ek:EK Task _ _ _ b9 (o9+k * 12) [.int .i64 t.op,.int .i64 t.pc,.int .i64 t.s.trace,.int .i64 t.s.id,.int .i64 t.s.start,.int .i64 t.s.fin,.bool t.s.err,dI,.int .i64 t.trace,.int .i64 t.stamp,dJ,.int .i64 t.h] _ _ _ _:=ek
 have at9:=ek.at_
 have nq0:b ∉ dU:=fun hm=>w.n9 (iT b (List.mem_append_left _ hm)).2
 refine ae2 _ _ ?_
 unfold Q6
 (repeat' first|refine vsx ?_|refine ao4 ?_|fail)
 refine aK (Jl (l:=x.st) (id:=t.trace) (by omega) ah) ?_
 rintro _ h2 ⟨e2,_,G2,rfl,⟨z2,rfl,zq2⟩,oG2⟩
 have n2:=e2.1;(try simp only[aH,aN] at n2)
 by_cases hit:eG x.st t.trace=true∧(cO x.st t.trace).stamp=t.stamp∧x.c.budget < wr (x.used+dW t.s)
 ·obtain⟨hf,hsm,hov⟩:=hit
  have eD:jl x t k={mQ x (cO x.st t.trace) false with w:=iE x.w (cO x.st t.trace).stamp,aF:=x.aF++[⟨3,k,ig,(cO x.st t.trace).id,(cO x.st t.trace).stamp,0,false,false,0,(cO x.st t.trace).spans.length,iX x (cO x.st t.trace) false,x.w.now,x.time,x.time,x.time⟩]}:=by unfold jl;rw[if_pos ⟨hf,hsm,hov⟩]
  have NJ:x.c.budget < IntKind.i64.wrap (x.used+dW t.s):=hov
  obtain⟨o,ho⟩:∃ o,fq x.st t.trace=some o:=by unfold eG at hf;exact Option.isSome_iff_exists.1 hf
  have hoo:=(mV ho).1
  rw[hoo] at hsm eD zq2
  rw[hf,hoo]
  have hso:Sz.sz o≤33554432:=by
   obtain⟨yo,jo,hyo,hjo,-,-⟩:=xV ho
   have a1:=bC (List.mem_of_getElem? hyo);have a2:=bC (List.mem_of_getElem? hjo)
   have e1:Sz.sz yo=yo.l.length+szs yo.l:=rfl
   omega
  (repeat' first|(with_reducible refine eu ?_)|refine vsx ?_|(with_reducible refine aW ?_)|((with_reducible refine fU ?_);refine fT aV ?_)|(refine br ?_ ?_<;>first|exact bo|intro _)|((with_reducible refine aA kI ?_);(refine aJ (sJ (s:=t.s) (F:=dU) (by omega) ah) ?_))|fail)
  all_goals try(exfalso;first|omega|contradiction)
  refine s.now (fun s2=>?_) aD
  have hbG:b ∉ G2:=fun hm=>by have:=(oG2.2 b hm).1;(try simp only[aH,aN] at this);omega
  refine aK (aa5 (o:=o) (keep:=false) s2.w (ah:au _ z2 o.spans G2) hbG (by omega) (by omega) hc) ?_
  rintro _ h3 ⟨rfl,W⟩
  obtain⟨V3,F3,s3,kk3,n3,m3⟩:=s2.call W
  have nbx:∀ c,h.n≤c→c ∉ b::F.a:=fun c hc' hm=>by
   rcases List.mem_cons.1 hm with q|q
   ·omega
   ·have:=s.lt c q;omega
  have bx6:Bk h3 h.n [.int .i64 t.op,.int .i64 t.pc,.int .i64 t.s.trace,.int .i64 t.s.id,.int .i64 t.s.start,.int .i64 t.s.fin,.bool t.s.err,dI,.int .i64 t.trace,.int .i64 t.stamp,dJ,.int .i64 t.h] 0:=bF kk3 aV (nbx _ (Nat.le_refl _))
  have Od:Bk h3 (h.push ⟨[.int .i64 t.op,.int .i64 t.pc,.int .i64 t.s.trace,.int .i64 t.s.id,.int .i64 t.s.start,.int .i64 t.s.fin,.bool t.s.err,dI,.int .i64 t.trace,.int .i64 t.stamp,dJ,.int .i64 t.h],0,0⟩).n [.int .i64 o.id,.int .i64 o.stamp,.int .i64 o.first,z2] 0:=bF kk3 aV (nbx _ (by simp))
  have zq3:au h3 z2 o.spans G2:=aL kk3 (ah:au _ z2 o.spans G2) fun c hc' hm=>nbx c (by have:=(oG2.2 c hc').1;(try simp only[aH,aN] at this);omega) hm
  have n3':h.n+1+1≤h3.n:=by simp only[aH,aN] at n3;omega
  have nF3:∀ c,h.n≤c→c < h.n+1+1→c ∉ F3.a:=fun c h1 h2 hm=>by
   rcases m3 c hm with q|q
   ·have:=s.lt c q;omega
   ·simp only[aH,aN] at q;omega
  obtain⟨x3,hx3,s3⟩:=s3.gen
  obtain⟨v0,v1,v2,v3,v4,v5,v6,v7,v8,v9,v10⟩:=V3
  have w3:=s3.w
  have bk3:=bkE w3
  have hws:Sz.sz x3.w≤33554432:=by
   rw[hx3];rw[wsz] at hs;show(x.w.near.length+szs x.w.near)+(x.w.far.length+szs x.w.far)+(x.w.rest.length+szs x.w.rest)≤_;omega
  have NQ:x3.aF.length≤33554432:=by rw[hx3];exact hds
  have r3:au h3 v3 x3.w.near F3.f3:=w3.r3
  have r4:au h3 v4 x3.w.far F3.f4:=w3.r4
  have r5:au h3 v5 x3.w.rest F3.f5:=w3.r5
  clear bk at9 r1 s2 kk3 zq2 W ek m3
  (repeat' first|refine vsx ?_|(with_reducible refine aW ?_)|fail)
  refine aK (agn (w:=x3.w) (id:=o.stamp) hws (ah:au _ v3 x3.w.near F3.f3) (ah:au _ v4 x3.w.far F3.f4) (ah:au _ v5 x3.w.rest F3.f5)) ?_
  rintro _ h5 ⟨okc,e5,_,_,rfl,⟨c0,c1,c2,p0,p1,p2,rfl,rfl,q0,q1,q2⟩,o5⟩
  have n5:=e5.1;(try simp only[aH,aN] at n5)
  have op0:=dA o5;have op1:=dA (bD o5);have op2:=bD (bD o5)
  have l5:∀ c∈p0++(p1++p2),c < h5.n:=fun c hc=>by
   rcases List.mem_append.1 hc with q|q
   ·exact q0.lt c q
   rcases List.mem_append.1 q with q|q
   ·exact q1.lt c q
   ·exact q2.lt c q
  have hb3:=bk3.1
  have p5:∀ c∈p0++(p1++p2),h3.n+1≤c:=fun c hc=>by have:=(o5.2 c hc).1;(try simp only[aH,aN] at this);omega
  have hx0:b ∉ p0:=fun hm=>by have:=p5 b (List.mem_append_left _ hm);omega
  have hx1:b ∉ p1:=fun hm=>by have:=p5 b (List.mem_append_right _ (List.mem_append_left _ hm));omega
  have hx2:b ∉ p2:=fun hm=>by have:=p5 b (List.mem_append_right _ (List.mem_append_right _ hm));omega
  have o5L:bO _ h5 (p0++(p1++p2)):=⟨o5,l5⟩
  (repeat' first|refine vsy ?_|(with_reducible refine aW ?_)|((with_reducible refine fU ?_);refine fT aV ?_)|fail)
  refine s3.Ij {x3 with w:=iE x3.w o.stamp} (ah:au _ c0 (iE x3.w o.stamp).near p0) (ah:au _ c1 (iE x3.w o.stamp).far p1) (ah:au _ c2 (iE x3.w o.stamp).rest p2) ((dN (dN o5L (fun hm=>by have:=(o5.2 _ hm).1;simp only[aH,aN] at this;omega)) (fun hm=>by have:=p5 b hm;omega)).1) (by simp only[aH,aN];omega) (fun x5 e5x s5=>?_)
  (repeat' first|refine vsx ?_|fail)
  have hd5:x5.aF.length≤33554432:=by rw[e5x];exact NQ
  refine s5.zn (a:=⟨3,k,ig,o.id,o.stamp,0,false,false,0,o.spans.length,iX x o false,(iE x3.w o.stamp).now,x3.time,x3.time,x3.time⟩) (G:=[]) (q:=h.n) ⟨.aC,rfl,au.aC⟩ Own.nil ⟨by have:=w.nb;omega,Nat.le_refl _⟩ (by simp) (by omega) (by omega) ?_
  intro v' h6 k6 b6 cv6 fin
  have bk6:Bk h6 b [AV.int .i64 x5.c.eU,AV.int .i64 x5.c.wait,AV.int .i64 x5.c.budget,AV.int .i64 x5.c.cache,AV.int .i64 x5.c.queue,AV.int .i64 x5.c.rate,AV.int .i64 x5.c.bn,AV.int .i64 x5.c.rule.kind,AV.int .i64 x5.c.rule.n,AV.str x5.c.rule.key,AV.str x5.c.rule.text,v0,AV.int .i64 x5.time,AV.bool x5.shut,v1,AV.int .i64 x5.bS,AV.int .i64 x5.b.rate,AV.int .i64 x5.b.bn,AV.int .i64 x5.b.tokens,AV.int .i64 x5.b.at_,v2,AV.int .i64 x5.used,AV.int .i64 x5.w.now,c0,c1,c2,v6,v7,v8,v9,v10,AV.int .i64 x5.next] 0:=b6
  have hb6:=bk6.1
  have n6:=k6.1;(try simp only[aH,aN] at n6)
  have IY:Bk h6 h.n [.int .i64 t.op,.int .i64 t.pc,.int .i64 t.s.trace,.int .i64 t.s.id,.int .i64 t.s.start,.int .i64 t.s.fin,.bool t.s.err,dI,.int .i64 t.trace,.int .i64 t.stamp,dJ,.int .i64 t.h] 0:=bF k6 aV fun hm=>nF3 _ (by omega) (by omega) (F3.rF _ hm)
  (repeat' first|((with_reducible refine bW ?_);refine kU cv6 rfl (qQ bk6 aX) ?_)|refine vsx ?_|(with_reducible refine aW ?_)|fail)
  refine fin (fun x7 F7 e7 s7 m7=>?_) (fP hb6) rfl fO
  have bx7:Bk (h6.upd b ⟨[AV.int .i64 x5.c.eU,AV.int .i64 x5.c.wait,AV.int .i64 x5.c.budget,AV.int .i64 x5.c.cache,AV.int .i64 x5.c.queue,AV.int .i64 x5.c.rate,AV.int .i64 x5.c.bn,AV.int .i64 x5.c.rule.kind,AV.int .i64 x5.c.rule.n,AV.str x5.c.rule.key,AV.str x5.c.rule.text,v0,AV.int .i64 x5.time,AV.bool x5.shut,v1,AV.int .i64 x5.bS,AV.int .i64 x5.b.rate,AV.int .i64 x5.b.bn,AV.int .i64 x5.b.tokens,AV.int .i64 x5.b.at_,v2,AV.int .i64 x5.used,AV.int .i64 x5.w.now,c0,c1,c2,v6,v7,v8,v9,v',AV.int .i64 x5.next],0,0⟩) h.n [.int .i64 t.op,.int .i64 t.pc,.int .i64 t.s.trace,.int .i64 t.s.id,.int .i64 t.s.start,.int .i64 t.s.fin,.bool t.s.err,dI,.int .i64 t.trace,.int .i64 t.stamp,dJ,.int .i64 t.h] 0:=BG IY (by omega)
  clear bk6 b6 IY bx6 Od fin k6 bk3 r3 r4 r5 q0 q1 q2 o5 op0 op1 op2 o5L
  have wX:=s7.w
  have h1X:1≤(x7.st.length:Int):=by rw[e7,e5x,hx3];show 1≤((gN x.st o.id).length:Int);rw[yD];exact h1
  have htX:x7.tasks[k]? =some t:=by rw[e7,e5x,hx3];exact ht
  have hkX:=(List.getElem?_eq_some_iff.1 htX).1
  obtain⟨yy,hyy⟩:=lu h1X t.trace
  have NH:=iU (t:=t.trace) h1X
  obtain⟨b1,o1,e1⟩:=wX.r1.sl hyy;have e1:v1= .sl b1 o1 x7.st.length:=e1;subst e1;have l1:b1 < _:=dZ wX.r1;obtain⟨b9,o9,e9⟩:=wX.r9.sl htX;have e9:v9= .sl b9 o9 x7.tasks.length:=e9;subst e9;have l9:b9 < _:=dZ wX.r9
  have bkX:=bkE wX
  obtain⟨mJ,zi,zJ,ez,zh,zK,zG,zI,zF,zH,wN,uj,og⟩:=s7.kS (bb:=b1) (off:=o1) hyy rfl;have ez:EK aQ _ _ _ b1 (o1+(stripe t.trace x7.st.length).toNat * 2) [.int .i64 yy.held,mJ] _ _ _ _:=ez
  have atz:=ez.at_
  (repeat' first|((with_reducible refine bW ?_);refine EK.st_ (ez.ext aD) (by rfl) (by rfl) aX ?_;intro h_ ez k_ n_)|refine vsx ?_|refine ao4 ?_|((with_reducible refine aA d9 ?_);refine aJ iD ?_)|fail)
  obtain⟨x8,F8,e8,s8,m8⟩:=og _ {yy with held:=-1} rfl ez
  have ht8:x8.tasks[k]? =some t:=by rw[e8];exact htX
  obtain⟨bZ,bY,gF,gD,gU,et,gM,gL,gI,fZ,gT,gP,gQ,gV,fF,dH⟩:=s8.dL (bb:=b9) (off:=o9) ht8 rfl;have et:EK Task _ _ _ b9 (o9+k * 12) [.int .i64 t.op,.int .i64 t.pc,.int .i64 t.s.trace,.int .i64 t.s.id,.int .i64 t.s.start,.int .i64 t.s.fin,.bool t.s.err,bZ,.int .i64 t.trace,.int .i64 t.stamp,bY,.int .i64 t.h] _ _ _ _:=et
  (repeat' first|((with_reducible refine bW ?_);refine EK.st_ (et.ext aD) (by rfl) (by rfl) aX ?_;intro h_ et k_ n_)|refine vsw ?_|refine ao4 ?_|fail)
  obtain⟨x9,F9,e9x,s9,m9⟩:=dH _ {t with pc:=0,trace:=0,stamp:=0} rfl rfl et
  have e:x9=ng x k t:=by rw[GK (by rw[eD,e7,e5x,hx3,Vz];rfl) hyy (by rw[e7,e5x,hx3];rfl),e9x,e8]
  rw[e] at s9
  exact⟨rfl,_,rfl,rfl,s9.done⟩
 ·have eD:jl x t k=x:=by unfold jl;rw[if_neg hit]
  by_cases hf:eG x.st t.trace=true
  ·by_cases hsm:(cO x.st t.trace).stamp=t.stamp
   ·have NJ: ¬ x.c.budget < IntKind.i64.wrap (x.used+dW t.s):=fun q=>hit ⟨hf,hsm,q⟩
    rw[hf]
    (repeat' first|(with_reducible refine eu ?_)|refine vsx ?_|(with_reducible refine aW ?_)|((with_reducible refine fU ?_);refine fT aV ?_)|(refine br ?_ ?_<;>first|exact bo|intro _)|((with_reducible refine aA kI ?_);(refine aJ (sJ (s:=t.s) (F:=dU) (by omega) ah) ?_))|fail)
    all_goals try(exfalso;first|omega|contradiction)
    refine s.now (fun s2=>?_) aD
    have wX:=s2.w
    have h1X:1≤(x.st.length:Int):=by exact h1
    have htX:x.tasks[k]? =some t:=by exact ht
    have hkX:=(List.getElem?_eq_some_iff.1 htX).1
    obtain⟨yy,hyy⟩:=lu h1X t.trace
    have NH:=iU (t:=t.trace) h1X
    obtain⟨b1,o1,e1⟩:=wX.r1.sl hyy;have e1:v1= .sl b1 o1 x.st.length:=e1;subst e1;have l1:b1 < _:=dZ wX.r1
    have bkX:=bkE wX
    obtain⟨mJ,zi,zJ,ez,zh,zK,zG,zI,zF,zH,wN,uj,og⟩:=s2.kS (bb:=b1) (off:=o1) hyy rfl;have ez:EK aQ _ _ _ b1 (o1+(stripe t.trace x.st.length).toNat * 2) [.int .i64 yy.held,mJ] _ _ _ _:=ez
    have atz:=ez.at_
    (repeat' first|((with_reducible refine bW ?_);refine EK.st_ (ez.ext aD) (by rfl) (by rfl) aX ?_;intro h_ ez k_ n_)|refine vsx ?_|refine ao4 ?_|((with_reducible refine aA d9 ?_);refine aJ iD ?_)|fail)
    obtain⟨x8,F8,e8,s8,m8⟩:=og _ {yy with held:=-1} rfl ez
    have ht8:x8.tasks[k]? =some t:=by rw[e8];exact htX
    obtain⟨bZ,bY,gF,gD,gU,et,gM,gL,gI,fZ,gT,gP,gQ,gV,fF,dH⟩:=s8.dL (bb:=b9) (off:=o9) ht8 rfl;have et:EK Task _ _ _ b9 (o9+k * 12) [.int .i64 t.op,.int .i64 t.pc,.int .i64 t.s.trace,.int .i64 t.s.id,.int .i64 t.s.start,.int .i64 t.s.fin,.bool t.s.err,bZ,.int .i64 t.trace,.int .i64 t.stamp,bY,.int .i64 t.h] _ _ _ _:=et
    (repeat' first|((with_reducible refine bW ?_);refine EK.st_ (et.ext aD) (by rfl) (by rfl) aX ?_;intro h_ et k_ n_)|refine vsw ?_|refine ao4 ?_|fail)
    obtain⟨x9,F9,e9x,s9,m9⟩:=dH _ {t with pc:=0,trace:=0,stamp:=0} rfl rfl et
    have e:x9=ng x k t:=by rw[GK eD.symm hyy rfl,e9x,e8]
    rw[e] at s9
    exact⟨rfl,_,rfl,rfl,s9.done⟩
   ·rw[hf]
    (repeat' first|refine vsx ?_|(with_reducible refine aW ?_)|((with_reducible refine fU ?_);refine fT aV ?_)|(refine br ?_ ?_<;>first|exact bo|intro _)|fail)
    all_goals try(exfalso;first|omega|contradiction)
    refine s.now (fun s2=>?_) aD
    have wX:=s2.w
    have h1X:1≤(x.st.length:Int):=by exact h1
    have htX:x.tasks[k]? =some t:=by exact ht
    have hkX:=(List.getElem?_eq_some_iff.1 htX).1
    obtain⟨yy,hyy⟩:=lu h1X t.trace
    have NH:=iU (t:=t.trace) h1X
    obtain⟨b1,o1,e1⟩:=wX.r1.sl hyy;have e1:v1= .sl b1 o1 x.st.length:=e1;subst e1;have l1:b1 < _:=dZ wX.r1
    have bkX:=bkE wX
    obtain⟨mJ,zi,zJ,ez,zh,zK,zG,zI,zF,zH,wN,uj,og⟩:=s2.kS (bb:=b1) (off:=o1) hyy rfl;have ez:EK aQ _ _ _ b1 (o1+(stripe t.trace x.st.length).toNat * 2) [.int .i64 yy.held,mJ] _ _ _ _:=ez
    have atz:=ez.at_
    (repeat' first|((with_reducible refine bW ?_);refine EK.st_ (ez.ext aD) (by rfl) (by rfl) aX ?_;intro h_ ez k_ n_)|refine vsx ?_|refine ao4 ?_|((with_reducible refine aA d9 ?_);refine aJ iD ?_)|fail)
    obtain⟨x8,F8,e8,s8,m8⟩:=og _ {yy with held:=-1} rfl ez
    have ht8:x8.tasks[k]? =some t:=by rw[e8];exact htX
    obtain⟨bZ,bY,gF,gD,gU,et,gM,gL,gI,fZ,gT,gP,gQ,gV,fF,dH⟩:=s8.dL (bb:=b9) (off:=o9) ht8 rfl;have et:EK Task _ _ _ b9 (o9+k * 12) [.int .i64 t.op,.int .i64 t.pc,.int .i64 t.s.trace,.int .i64 t.s.id,.int .i64 t.s.start,.int .i64 t.s.fin,.bool t.s.err,bZ,.int .i64 t.trace,.int .i64 t.stamp,bY,.int .i64 t.h] _ _ _ _:=et
    (repeat' first|((with_reducible refine bW ?_);refine EK.st_ (et.ext aD) (by rfl) (by rfl) aX ?_;intro h_ et k_ n_)|refine vsw ?_|refine ao4 ?_|fail)
    obtain⟨x9,F9,e9x,s9,m9⟩:=dH _ {t with pc:=0,trace:=0,stamp:=0} rfl rfl et
    have e:x9=ng x k t:=by rw[GK eD.symm hyy rfl,e9x,e8]
    rw[e] at s9
    exact⟨rfl,_,rfl,rfl,s9.done⟩
  ·have hf':eG x.st t.trace=false:=by simpa using hf
   rw[hf']
   (repeat' first|refine vsx ?_|(with_reducible refine aW ?_)|((with_reducible refine fU ?_);refine fT aV ?_)|fail)
   all_goals try(exfalso;first|omega|contradiction)
   refine s.now (fun s2=>?_) aD
   have wX:=s2.w
   have h1X:1≤(x.st.length:Int):=by exact h1
   have htX:x.tasks[k]? =some t:=by exact ht
   have hkX:=(List.getElem?_eq_some_iff.1 htX).1
   obtain⟨yy,hyy⟩:=lu h1X t.trace
   have NH:=iU (t:=t.trace) h1X
   obtain⟨b1,o1,e1⟩:=wX.r1.sl hyy;have e1:v1= .sl b1 o1 x.st.length:=e1;subst e1;have l1:b1 < _:=dZ wX.r1
   have bkX:=bkE wX
   obtain⟨mJ,zi,zJ,ez,zh,zK,zG,zI,zF,zH,wN,uj,og⟩:=s2.kS (bb:=b1) (off:=o1) hyy rfl;have ez:EK aQ _ _ _ b1 (o1+(stripe t.trace x.st.length).toNat * 2) [.int .i64 yy.held,mJ] _ _ _ _:=ez
   have atz:=ez.at_
   (repeat' first|((with_reducible refine bW ?_);refine EK.st_ (ez.ext aD) (by rfl) (by rfl) aX ?_;intro h_ ez k_ n_)|refine vsx ?_|refine ao4 ?_|((with_reducible refine aA d9 ?_);refine aJ iD ?_)|fail)
   obtain⟨x8,F8,e8,s8,m8⟩:=og _ {yy with held:=-1} rfl ez
   have ht8:x8.tasks[k]? =some t:=by rw[e8];exact htX
   obtain⟨bZ,bY,gF,gD,gU,et,gM,gL,gI,fZ,gT,gP,gQ,gV,fF,dH⟩:=s8.dL (bb:=b9) (off:=o9) ht8 rfl;have et:EK Task _ _ _ b9 (o9+k * 12) [.int .i64 t.op,.int .i64 t.pc,.int .i64 t.s.trace,.int .i64 t.s.id,.int .i64 t.s.start,.int .i64 t.s.fin,.bool t.s.err,bZ,.int .i64 t.trace,.int .i64 t.stamp,bY,.int .i64 t.h] _ _ _ _:=et
   (repeat' first|((with_reducible refine bW ?_);refine EK.st_ (et.ext aD) (by rfl) (by rfl) aX ?_;intro h_ et k_ n_)|refine vsw ?_|refine ao4 ?_|fail)
   obtain⟨x9,F9,e9x,s9,m9⟩:=dH _ {t with pc:=0,trace:=0,stamp:=0} rfl rfl et
   have e:x9=ng x k t:=by rw[GK eD.symm hyy rfl,e9x,e8]
   rw[e] at s9
   exact⟨rfl,_,rfl,rfl,s9.done⟩
end Go.Proofs.YtkdjapahgmflbaaGreat
