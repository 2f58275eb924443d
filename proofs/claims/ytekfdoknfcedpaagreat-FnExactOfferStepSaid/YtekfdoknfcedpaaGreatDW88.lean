import Derived.Test.YtekfdoknfcedpaaGreatDW87
import Derived.Test.YtekfdoknfcedpaaGreatDAb57
set_option linter.unusedSimpArgs false
set_option linter.unusedVariables false
set_option maxHeartbeats 4000000
set_option maxRecDepth 20000
namespace Go.Proofs.YtekfdoknfcedpaaGreat
open Go Go.Ab
attribute[local irreducible] dI
section
def Pz (x0 x1:AV):Prog:=Lf 29 x0 fun a=>Ix 12 a x1 fun a=>Ld 12 a fun a=>.op (.alloc gX) fun b=>.op (.st 12 b a) fun _=>Lf 14 x0 fun a=>Lg 8 b fun c=>.op (.alloc [.int .i64 0,.int .i64 0,.int .i64 0,.au]) fun d=>Cl BL [a,c] fun a=>.chk (.alloc [.int .i64 0,.int .i64 0,.int .i64 0,.au]) d (.op (.ext a 0) fun c=>.op (.ext a 1) fun a=>.op (.st 4 d c) fun _=>Gf a true 1 d fun c=>Gf a true 9 b fun e=>.gop a true (.bin 0 .eql c e) fun c=>Pk a c (.bool false) fun a=>.gop a true (.mv x0) fun c=>.gop a true (.bO c) fun c=>.gop a true (.fad 21 c) fun c=>.gop a true (.ld1 c) fun e=>.gop a true (.fad 2 b) fun f=>.gop a true (.ldn 6 f) fun f=>.gop a true (.mv x0) fun i=>.gop a true (.bO i) fun i=>.gop a true (.fad 0 i) fun i=>.gop a true (.fad 2 i) fun i=>.gop a true (.ld1 i) fun j=>.gop a true (.call jr [f]) fun f=>.jN a true (.ld1 c) e (.jN a true (.ld1 i) j (.gop a true (.bin 0 .add e f) fun c=>.gop a true (.bin 0 .gtr c j) fun c=>Pk a c (.bool false) fun a=>.scope (.ite a (Ld 4 d fun a=>Cl Ie [x0,a,.bool false] fun a=>.op (.bO x0) fun b=>.op (.fad 22 b) fun b=>Ld 4 b fun b=>Lg 1 d fun c=>.op (.alloc [.int .i64 0,.au,.au,.au]) fun e=>Cl JA [b,c] fun b=>.chk (.alloc [.int .i64 0,.au,.au,.au]) e (.op (.ext b 0) fun c=>.op (.ext b 1) fun _=>.op (.st 4 e c) fun _=>Ld 4 e fun b=>.op (.bO x0) fun c=>.op (.fad 22 c) fun c=>.op (.st 4 c b) fun _=>Lf 30 x0 fun b=>Lg 0 d fun c=>Lg 1 d fun e=>Lg 3 d fun d=>Ln 0 d fun d=>.op (.bO x0) fun f=>.op (.fad 22 f) fun f=>Lg 0 f fun f=>Lf 12 x0 fun i=>Lf 12 x0 fun j=>Lf 12 x0 fun k=>.op (.build jf [(0,1,.int .i64 3),(1,1,x1),(8,1,c),(9,1,e),(14,1,d),(15,1,a),(16,1,f),(17,1,i),(18,1,j),(19,1,k)]) fun a=>.op (.aW 20 1 jf [(0,20,a)]) fun a=>.op (.app 20 168 b a) fun a=>Sf 30 x0 a fun _=>.leaf 0 [])) (.leaf 0 [])) (fun _=>.op (.bO x0) fun a=>.op (.fad 14 a) fun a=>.op (.ld1 a) fun c=>Lg 8 b fun b=>Lf 14 x0 fun d=>Ln 0 d fun d=>Cl eU [b,d] fun b=>.chk (.ld1 a) c (Ix 2 c b fun a=>.op (.fad 0 a) fun a=>.op (.st 1 a (.int .i64 (-1))) fun _=>Lf 29 x0 fun a=>Ix 12 a x1 fun a=>Sg 1 a (.int .i64 0) fun _=>Lf 29 x0 fun a=>Ix 12 a x1 fun a=>Sg 8 a (.int .i64 0) fun _=>Lf 29 x0 fun a=>Ix 12 a x1 fun a=>Sg 9 a (.int .i64 0) fun _=>.fin [])) fun a b=>ak a 1 (.leaf 1 b) .bad)))
theorem afy (x0 x1:AV):CC Tryz.prog Jg [x0,x1] (Pz x0 x1):=cc Tryz.func152 [0,1,4] (fun r=>if r=1 then[(0,[]),(1,[]),(2,[]),(3,[]),(4,[]),(5,[]),(10,[]),(6,[10]),(7,[]),(8,[]),(9,[]),(11,[]),(12,[])] else if r=2 then[(0,[]),(1,[]),(2,[]),(3,[]),(4,[]),(5,[]),(6,[]),(7,[]),(8,[]),(9,[]),(10,[]),(11,[]),(12,[]),(13,[]),(14,[]),(17,[]),(18,[]),(19,[]),(20,[]),(21,[]),(15,[12,21]),(16,[]),(22,[]),(23,[])] else if r=4 then[(0,[]),(1,[]),(2,[]),(3,[]),(4,[]),(5,[]),(10,[]),(6,[10]),(7,[]),(8,[]),(9,[]),(11,[]),(12,[])] else if r=6 then[(0,[]),(1,[]),(2,[]),(3,[]),(4,[]),(5,[]),(6,[]),(7,[]),(8,[]),(9,[]),(10,[]),(11,[]),(12,[]),(13,[]),(14,[]),(15,[]),(16,[]),(17,[]),(18,[]),(19,[]),(20,[]),(21,[]),(22,[]),(23,[]),(24,[]),(25,[]),(26,[]),(27,[]),(28,[]),(29,[]),(30,[]),(31,[]),(32,[]),(33,[]),(34,[]),(35,[]),(36,[])] else if r=7 then[(0,[]),(1,[]),(2,[]),(3,[]),(4,[]),(5,[]),(6,[]),(7,[]),(8,[]),(9,[]),(10,[]),(11,[3]),(12,[]),(13,[]),(14,[])] else[])
end
theorem Tq {w:bD} {id:Int}:(fU w id).now=w.now:=by unfold fU;split<;>rfl
theorem EZ {x:Wld} {k:Nat} {t:Task} {z:Wld} {y:aM} (hz:z=gu x t k) (hy:z.st[(stripe t.trace z.st.length).toNat]? =some y) (hx:z.tasks=x.tasks):lV x k t={z with st:=z.st.set (stripe t.trace z.st.length).toNat {y with held:=-1},tasks:=z.tasks.set k {t with pc:=0,trace:=0,stamp:=0}}:=by
 unfold lV;rw[←hz,wS hy,hx]
theorem aeB {h:AH} {n b k:Nat} {x:Wld} {V:WV} {F:WF} {t:Task} (w:PW n h b x V F) (ht:x.tasks[k]? =some t) (h1:1≤(x.st.length:Int)) (hs:Sz.sz x≤33554432) (hc:x.cache.length≤1048576):bE Tryz.prog Jg [.ptr b 0,.int .i64 (k:Int)] h fun v h'=>v= .tup []∧mZ n h.n h b F (lV x k t) h':=by
 obtain⟨v0,v1,v2,v3,v4,v5,v6,v7,v8,v9,v10⟩:=V
 have hk:k < x.tasks.length:=(List.getElem?_eq_some_iff.1 ht).1
 have hst:=xI hs
 have htk:=(zO hs ht).1
 have hds:x.aI.length≤33554432:=by rw[wsz] at hs;omega
 have s:=w.ws
 obtain⟨b9,o9,e9⟩:=w.r9.sl ht;have e9:v9= .sl b9 o9 x.tasks.length:=e9;subst e9;have l9:b9 < _:=fO w.r9
 have bk:Bk h b [AV.int .i64 x.c.cB,AV.int .i64 x.c.wait,AV.int .i64 x.c.budget,AV.int .i64 x.c.cache,AV.int .i64 x.c.queue,AV.int .i64 x.c.rate,AV.int .i64 x.c.aV,AV.int .i64 x.c.rule.kind,AV.int .i64 x.c.rule.n,AV.str x.c.rule.key,AV.str x.c.rule.text,v0,AV.int .i64 x.time,AV.bool x.shut,v1,AV.int .i64 x.bQ,AV.int .i64 x.b.rate,AV.int .i64 x.b.aV,AV.int .i64 x.b.tokens,AV.int .i64 x.b.at_,v2,AV.int .i64 x.used,AV.int .i64 x.w.now,v3,v4,v5,v6,v7,v8,(AV.sl b9 o9 x.tasks.length),v10,AV.int .i64 x.next] 0:=w.bk
 have hb:=bk.1
 have r1:aj h v1 x.st F.f1:=w.r1
 obtain⟨fJ,fP,dW,nV,oz,ek,nU,nT,oC,jV,oq,oh,om,mY,mM,jq⟩:=s.fH (bb:=b9) (off:=o9) ht rfl;have ek:EK Task _ _ _ b9 (o9+k * 12) [.int .i64 t.op,.int .i64 t.pc,.int .i64 t.s.trace,.int .i64 t.s.id,.int .i64 t.s.start,.int .i64 t.s.fin,.bool t.s.err,fJ,.int .i64 t.trace,.int .i64 t.stamp,fP,.int .i64 t.h] _ _ _ _:=ek
 have at9:=ek.at_
 have nq0:b ∉ dW:=fun hm=>w.n9 (jV b (List.mem_append_left _ hm)).2
 refine afy _ _ ?_
 unfold Pz
 (repeat' first|refine vsx ?_|(with_reducible refine aS ?_)|((with_reducible refine aP ?_);refine bN (by omega) ?_)|fail)
 refine aG (Ni (l:=x.st) (id:=t.trace) (by omega) ah) ?_
 rintro _ h2 ⟨e2,_,G2,rfl,⟨z2,rfl,zq2⟩,oG2⟩
 have n2:=e2.1;(try simp only[aD,aN] at n2)
 by_cases hit:fF x.st t.trace=true∧(dx x.st t.trace).stamp=t.stamp∧x.c.budget < wr (x.used+dM t.s)
 ·obtain⟨hf,hsm,hov⟩:=hit
  have eD:gu x t k={qW x (dx x.st t.trace) false with w:=fU x.w (dx x.st t.trace).stamp,aI:=x.aI++[⟨3,k,uq,(dx x.st t.trace).id,(dx x.st t.trace).stamp,0,false,false,0,(dx x.st t.trace).spans.length,qV x (dx x.st t.trace) false,x.w.now,x.time,x.time,x.time⟩]}:=by unfold gu;rw[if_pos ⟨hf,hsm,hov⟩]
  have Mq:x.c.budget < IntKind.i64.wrap (x.used+dM t.s):=hov
  obtain⟨o,ho⟩:∃ o,fu x.st t.trace=some o:=by unfold fF at hf;exact Option.isSome_iff_exists.1 hf
  have hoo:=(pV ho).1
  rw[hoo] at hsm eD zq2
  rw[hf,hoo]
  have hso:Sz.sz o≤33554432:=by
   obtain⟨yo,jo,hyo,hjo,-,-⟩:=Es ho
   have a1:=bf (List.mem_of_getElem? hyo);have a2:=bf (List.mem_of_getElem? hjo)
   have e1:Sz.sz yo=yo.l.length+szs yo.l:=rfl
   omega
  (repeat' first|(with_reducible refine fK ?_)|refine vsx ?_|(with_reducible refine aS ?_)|((with_reducible refine gK ?_);refine gI aX ?_)|(refine br ?_ ?_<;>first|exact bo|intro _)|((with_reducible refine ay jr ?_);(refine aK (qC (s:=t.s) (F:=dW) (by omega) ah) ?_))|fail)
  all_goals try(exfalso;first|omega|contradiction)
  refine s.now (fun s2=>?_) aA
  have hbG:b ∉ G2:=fun hm=>by have:=(oG2.2 b hm).1;(try simp only[aD,aN] at this);omega
  refine aG (aa9 (o:=o) (keep:=false) s2.w (ah:aj _ z2 o.spans G2) hbG (by omega) (by omega) hc) ?_
  rintro _ h3 ⟨rfl,W⟩
  obtain⟨V3,F3,s3,kk3,n3,m3⟩:=s2.call W
  have nbx:∀ c,h.n≤c→c ∉ b::F.a:=fun c hc' hm=>by
   rcases List.mem_cons.1 hm with q|q
   ·omega
   ·have:=s.lt c q;omega
  have bx6:Bk h3 h.n [.int .i64 t.op,.int .i64 t.pc,.int .i64 t.s.trace,.int .i64 t.s.id,.int .i64 t.s.start,.int .i64 t.s.fin,.bool t.s.err,fJ,.int .i64 t.trace,.int .i64 t.stamp,fP,.int .i64 t.h] 0:=bJ kk3 aX (nbx _ (Nat.le_refl _))
  have MH:Bk h3 (h.push ⟨[.int .i64 t.op,.int .i64 t.pc,.int .i64 t.s.trace,.int .i64 t.s.id,.int .i64 t.s.start,.int .i64 t.s.fin,.bool t.s.err,fJ,.int .i64 t.trace,.int .i64 t.stamp,fP,.int .i64 t.h],0,0⟩).n [.int .i64 o.id,.int .i64 o.stamp,.int .i64 o.first,z2] 0:=bJ kk3 aX (nbx _ (by simp))
  have zq3:aj h3 z2 o.spans G2:=aC kk3 (ah:aj _ z2 o.spans G2) fun c hc' hm=>nbx c (by have:=(oG2.2 c hc').1;(try simp only[aD,aN] at this);omega) hm
  have n3':h.n+1+1≤h3.n:=by simp only[aD,aN] at n3;omega
  have nF3:∀ c,h.n≤c→c < h.n+1+1→c ∉ F3.a:=fun c h1 h2 hm=>by
   rcases m3 c hm with q|q
   ·have:=s.lt c q;omega
   ·simp only[aD,aN] at q;omega
  obtain⟨x3,hx3,s3⟩:=s3.gen
  obtain⟨v0,v1,v2,v3,v4,v5,v6,v7,v8,v9,v10⟩:=V3
  have w3:=s3.w
  have bk3:Bk h3 b [AV.int .i64 x3.c.cB,AV.int .i64 x3.c.wait,AV.int .i64 x3.c.budget,AV.int .i64 x3.c.cache,AV.int .i64 x3.c.queue,AV.int .i64 x3.c.rate,AV.int .i64 x3.c.aV,AV.int .i64 x3.c.rule.kind,AV.int .i64 x3.c.rule.n,AV.str x3.c.rule.key,AV.str x3.c.rule.text,v0,AV.int .i64 x3.time,AV.bool x3.shut,v1,AV.int .i64 x3.bQ,AV.int .i64 x3.b.rate,AV.int .i64 x3.b.aV,AV.int .i64 x3.b.tokens,AV.int .i64 x3.b.at_,v2,AV.int .i64 x3.used,AV.int .i64 x3.w.now,v3,v4,v5,v6,v7,v8,v9,v10,AV.int .i64 x3.next] 0:=w3.bk
  have hws:Sz.sz x3.w≤33554432:=by
   rw[hx3];rw[wsz] at hs;show(x.w.near.length+szs x.w.near)+(x.w.far.length+szs x.w.far)+(x.w.rest.length+szs x.w.rest)≤_;omega
  have Mt:x3.aI.length≤33554432:=by rw[hx3];exact hds
  have r3:aj h3 v3 x3.w.near F3.f3:=w3.r3
  have r4:aj h3 v4 x3.w.far F3.f4:=w3.r4
  have r5:aj h3 v5 x3.w.rest F3.f5:=w3.r5
  clear bk at9 r1 s2 kk3 zq2 W ek m3
  (repeat' first|refine vsx ?_|(with_reducible refine aS ?_)|fail)
  refine aG (agH (w:=x3.w) (id:=o.stamp) hws (ah:aj _ v3 x3.w.near F3.f3) (ah:aj _ v4 x3.w.far F3.f4) (ah:aj _ v5 x3.w.rest F3.f5)) ?_
  rintro _ h5 ⟨okc,e5,_,_,rfl,⟨c0,c1,c2,p0,p1,p2,rfl,rfl,q0,q1,q2⟩,o5⟩
  have n5:=e5.1;(try simp only[aD,aN] at n5)
  have op0:=bU o5;have op1:=bU (aJ o5);have op2:=aJ (aJ o5)
  have l5:∀ c∈p0++(p1++p2),c < h5.n:=fun c hc=>by
   rcases List.mem_append.1 hc with q|q
   ·exact q0.lt c q
   rcases List.mem_append.1 q with q|q
   ·exact q1.lt c q
   ·exact q2.lt c q
  have hb3:=bk3.1
  have p5:∀ c∈p0++(p1++p2),h3.n+1≤c:=fun c hc=>by have:=(o5.2 c hc).1;(try simp only[aD,aN] at this);omega
  have hx0:b ∉ p0:=fun hm=>by have:=p5 b (List.mem_append_left _ hm);omega
  have hx1:b ∉ p1:=fun hm=>by have:=p5 b (List.mem_append_right _ (List.mem_append_left _ hm));omega
  have hx2:b ∉ p2:=fun hm=>by have:=p5 b (List.mem_append_right _ (List.mem_append_right _ hm));omega
  have o5L:dh _ h5 (p0++(p1++p2)):=⟨o5,l5⟩
  (repeat' first|refine vsy ?_|(with_reducible refine aS ?_)|((with_reducible refine gK ?_);refine gI aX ?_)|fail)
  refine s3.Gd {x3 with w:=fU x3.w o.stamp} (ah:aj _ c0 (fU x3.w o.stamp).near p0) (ah:aj _ c1 (fU x3.w o.stamp).far p1) (ah:aj _ c2 (fU x3.w o.stamp).rest p2) ((eY (eY o5L (fun hm=>by have:=(o5.2 _ hm).1;simp only[aD,aN] at this;omega)) (fun hm=>by have:=p5 b hm;omega)).1) (by simp only[aD,aN];omega) (fun x5 e5x s5=>?_)
  (repeat' first|refine vsx ?_|fail)
  have hd5:x5.aI.length≤33554432:=by rw[e5x];exact Mt
  refine s5.Gt (a:=⟨3,k,uq,o.id,o.stamp,0,false,false,0,o.spans.length,qV x o false,(fU x3.w o.stamp).now,x3.time,x3.time,x3.time⟩) (G:=[]) (q:=h.n) ⟨.au,rfl,aj.au⟩ Own.nil ⟨by have:=w.nb;omega,Nat.le_refl _⟩ (by simp) (by omega) (by omega) ?_
  intro v' h6 k6 b6 cv6 fin
  have bk6:Bk h6 b [AV.int .i64 x5.c.cB,AV.int .i64 x5.c.wait,AV.int .i64 x5.c.budget,AV.int .i64 x5.c.cache,AV.int .i64 x5.c.queue,AV.int .i64 x5.c.rate,AV.int .i64 x5.c.aV,AV.int .i64 x5.c.rule.kind,AV.int .i64 x5.c.rule.n,AV.str x5.c.rule.key,AV.str x5.c.rule.text,v0,AV.int .i64 x5.time,AV.bool x5.shut,v1,AV.int .i64 x5.bQ,AV.int .i64 x5.b.rate,AV.int .i64 x5.b.aV,AV.int .i64 x5.b.tokens,AV.int .i64 x5.b.at_,v2,AV.int .i64 x5.used,AV.int .i64 x5.w.now,c0,c1,c2,v6,v7,v8,v9,v10,AV.int .i64 x5.next] 0:=b6
  have hb6:=bk6.1
  have n6:=k6.1;(try simp only[aD,aN] at n6)
  have Zh:Bk h6 h.n [.int .i64 t.op,.int .i64 t.pc,.int .i64 t.s.trace,.int .i64 t.s.id,.int .i64 t.s.start,.int .i64 t.s.fin,.bool t.s.err,fJ,.int .i64 t.trace,.int .i64 t.stamp,fP,.int .i64 t.h] 0:=bJ k6 aX fun hm=>nF3 _ (by omega) (by omega) (F3.qp _ hm)
  (repeat' first|((with_reducible refine dQ ?_);refine kX cv6 rfl (rH bk6 bP) ?_)|refine vsx ?_|(with_reducible refine aS ?_)|fail)
  refine fin (fun x7 F7 e7 s7 m7=>?_) (iL hb6) rfl kr
  have bx7:Bk (h6.upd b ⟨[AV.int .i64 x5.c.cB,AV.int .i64 x5.c.wait,AV.int .i64 x5.c.budget,AV.int .i64 x5.c.cache,AV.int .i64 x5.c.queue,AV.int .i64 x5.c.rate,AV.int .i64 x5.c.aV,AV.int .i64 x5.c.rule.kind,AV.int .i64 x5.c.rule.n,AV.str x5.c.rule.key,AV.str x5.c.rule.text,v0,AV.int .i64 x5.time,AV.bool x5.shut,v1,AV.int .i64 x5.bQ,AV.int .i64 x5.b.rate,AV.int .i64 x5.b.aV,AV.int .i64 x5.b.tokens,AV.int .i64 x5.b.at_,v2,AV.int .i64 x5.used,AV.int .i64 x5.w.now,c0,c1,c2,v6,v7,v8,v9,v',AV.int .i64 x5.next],0,0⟩) h.n [.int .i64 t.op,.int .i64 t.pc,.int .i64 t.s.trace,.int .i64 t.s.id,.int .i64 t.s.start,.int .i64 t.s.fin,.bool t.s.err,fJ,.int .i64 t.trace,.int .i64 t.stamp,fP,.int .i64 t.h] 0:=KV Zh (by omega)
  clear bk6 b6 Zh bx6 MH fin k6 bk3 r3 r4 r5 q0 q1 q2 o5 op0 op1 op2 o5L
  have wX:=s7.w
  have h1X:1≤(x7.st.length:Int):=by rw[e7,e5x,hx3];show 1≤((gL x.st o.id).length:Int);rw[zK];exact h1
  have htX:x7.tasks[k]? =some t:=by rw[e7,e5x,hx3];exact ht
  have hkX:=(List.getElem?_eq_some_iff.1 htX).1
  obtain⟨yy,hyy⟩:=lD h1X t.trace
  have Mj:=iG (t:=t.trace) h1X
  obtain⟨b1,o1,e1⟩:=wX.r1.sl hyy;have e1:v1= .sl b1 o1 x7.st.length:=e1;subst e1;have l1:b1 < _:=fO wX.r1;obtain⟨b9,o9,e9⟩:=wX.r9.sl htX;have e9:v9= .sl b9 o9 x7.tasks.length:=e9;subst e9;have l9:b9 < _:=fO wX.r9
  have bkX:Bk _ b [AV.int .i64 x7.c.cB,AV.int .i64 x7.c.wait,AV.int .i64 x7.c.budget,AV.int .i64 x7.c.cache,AV.int .i64 x7.c.queue,AV.int .i64 x7.c.rate,AV.int .i64 x7.c.aV,AV.int .i64 x7.c.rule.kind,AV.int .i64 x7.c.rule.n,AV.str x7.c.rule.key,AV.str x7.c.rule.text,v0,AV.int .i64 x7.time,AV.bool x7.shut,(AV.sl b1 o1 x7.st.length),AV.int .i64 x7.bQ,AV.int .i64 x7.b.rate,AV.int .i64 x7.b.aV,AV.int .i64 x7.b.tokens,AV.int .i64 x7.b.at_,v2,AV.int .i64 x7.used,AV.int .i64 x7.w.now,c0,c1,c2,v6,v7,v8,(AV.sl b9 o9 x7.tasks.length),v',AV.int .i64 x7.next] 0:=wX.bk
  obtain⟨mW,Ao,AX,ez,Am,AY,AP,AU,AO,AQ,AZ,uL,qw⟩:=s7.kT (bb:=b1) (off:=o1) hyy rfl;have ez:EK aM _ _ _ b1 (o1+(stripe t.trace x7.st.length).toNat * 2) [.int .i64 yy.held,mW] _ _ _ _:=ez
  have atz:=ez.at_
  (repeat' first|((with_reducible refine dQ ?_);refine EK.st_ (ez.ext aA) (by rfl) (by rfl) bP ?_;intro h_ ez k_ n_)|refine vsx ?_|(with_reducible refine aS ?_)|(with_reducible refine pG ?_)|((with_reducible refine aP ?_);first|refine bN (by omega) ?_|refine dY (by omega) (by omega) ?_)|((with_reducible refine ay eU ?_);refine aK iq ?_)|fail)
  obtain⟨x8,F8,e8,s8,m8⟩:=qw _ {yy with held:=-1} rfl ez
  have ht8:x8.tasks[k]? =some t:=by rw[e8];exact htX
  obtain⟨eO,eG,jL,jK,jS,et,jJ,jI,jT,jP,jR,jO,jQ,jU,iU,fB⟩:=s8.fH (bb:=b9) (off:=o9) ht8 rfl;have et:EK Task _ _ _ b9 (o9+k * 12) [.int .i64 t.op,.int .i64 t.pc,.int .i64 t.s.trace,.int .i64 t.s.id,.int .i64 t.s.start,.int .i64 t.s.fin,.bool t.s.err,eO,.int .i64 t.trace,.int .i64 t.stamp,eG,.int .i64 t.h] _ _ _ _:=et
  (repeat' first|((with_reducible refine dQ ?_);refine EK.st_ (et.ext aA) (by rfl) (by rfl) bP ?_;intro h_ et k_ n_)|refine vsw ?_|(with_reducible refine aS ?_)|((with_reducible refine aP ?_);refine bN (by omega) ?_)|fail)
  obtain⟨x9,F9,e9x,s9,m9⟩:=fB _ {t with pc:=0,trace:=0,stamp:=0} rfl rfl et
  have e:x9=lV x k t:=by rw[EZ (by rw[eD,e7,e5x,hx3,Tq];rfl) hyy (by rw[e7,e5x,hx3];rfl),e9x,e8]
  rw[e] at s9
  exact⟨rfl,_,rfl,rfl,s9.done⟩
 ·have eD:gu x t k=x:=by unfold gu;rw[if_neg hit]
  by_cases hf:fF x.st t.trace=true
  ·by_cases hsm:(dx x.st t.trace).stamp=t.stamp
   ·have Mq: ¬ x.c.budget < IntKind.i64.wrap (x.used+dM t.s):=fun q=>hit ⟨hf,hsm,q⟩
    rw[hf]
    (repeat' first|(with_reducible refine fK ?_)|refine vsx ?_|(with_reducible refine aS ?_)|((with_reducible refine gK ?_);refine gI aX ?_)|(refine br ?_ ?_<;>first|exact bo|intro _)|((with_reducible refine ay jr ?_);(refine aK (qC (s:=t.s) (F:=dW) (by omega) ah) ?_))|fail)
    all_goals try(exfalso;first|omega|contradiction)
    refine s.now (fun s2=>?_) aA
    have wX:=s2.w
    have h1X:1≤(x.st.length:Int):=by exact h1
    have htX:x.tasks[k]? =some t:=by exact ht
    have hkX:=(List.getElem?_eq_some_iff.1 htX).1
    obtain⟨yy,hyy⟩:=lD h1X t.trace
    have Mj:=iG (t:=t.trace) h1X
    obtain⟨b1,o1,e1⟩:=wX.r1.sl hyy;have e1:v1= .sl b1 o1 x.st.length:=e1;subst e1;have l1:b1 < _:=fO wX.r1
    have bkX:Bk _ b [AV.int .i64 x.c.cB,AV.int .i64 x.c.wait,AV.int .i64 x.c.budget,AV.int .i64 x.c.cache,AV.int .i64 x.c.queue,AV.int .i64 x.c.rate,AV.int .i64 x.c.aV,AV.int .i64 x.c.rule.kind,AV.int .i64 x.c.rule.n,AV.str x.c.rule.key,AV.str x.c.rule.text,v0,AV.int .i64 x.time,AV.bool x.shut,(AV.sl b1 o1 x.st.length),AV.int .i64 x.bQ,AV.int .i64 x.b.rate,AV.int .i64 x.b.aV,AV.int .i64 x.b.tokens,AV.int .i64 x.b.at_,v2,AV.int .i64 x.used,AV.int .i64 x.w.now,v3,v4,v5,v6,v7,v8,(AV.sl b9 o9 x.tasks.length),v10,AV.int .i64 x.next] 0:=wX.bk
    obtain⟨mW,Ao,AX,ez,Am,AY,AP,AU,AO,AQ,AZ,uL,qw⟩:=s2.kT (bb:=b1) (off:=o1) hyy rfl;have ez:EK aM _ _ _ b1 (o1+(stripe t.trace x.st.length).toNat * 2) [.int .i64 yy.held,mW] _ _ _ _:=ez
    have atz:=ez.at_
    (repeat' first|((with_reducible refine dQ ?_);refine EK.st_ (ez.ext aA) (by rfl) (by rfl) bP ?_;intro h_ ez k_ n_)|refine vsx ?_|(with_reducible refine aS ?_)|((with_reducible refine aP ?_);first|refine bN (by omega) ?_|refine dY (by omega) (by omega) ?_)|((with_reducible refine ay eU ?_);refine aK iq ?_)|fail)
    obtain⟨x8,F8,e8,s8,m8⟩:=qw _ {yy with held:=-1} rfl ez
    have ht8:x8.tasks[k]? =some t:=by rw[e8];exact htX
    obtain⟨eO,eG,jL,jK,jS,et,jJ,jI,jT,jP,jR,jO,jQ,jU,iU,fB⟩:=s8.fH (bb:=b9) (off:=o9) ht8 rfl;have et:EK Task _ _ _ b9 (o9+k * 12) [.int .i64 t.op,.int .i64 t.pc,.int .i64 t.s.trace,.int .i64 t.s.id,.int .i64 t.s.start,.int .i64 t.s.fin,.bool t.s.err,eO,.int .i64 t.trace,.int .i64 t.stamp,eG,.int .i64 t.h] _ _ _ _:=et
    (repeat' first|((with_reducible refine dQ ?_);refine EK.st_ (et.ext aA) (by rfl) (by rfl) bP ?_;intro h_ et k_ n_)|refine vsw ?_|(with_reducible refine aS ?_)|((with_reducible refine aP ?_);refine bN (by omega) ?_)|fail)
    obtain⟨x9,F9,e9x,s9,m9⟩:=fB _ {t with pc:=0,trace:=0,stamp:=0} rfl rfl et
    have e:x9=lV x k t:=by rw[EZ eD.symm hyy rfl,e9x,e8]
    rw[e] at s9
    exact⟨rfl,_,rfl,rfl,s9.done⟩
   ·rw[hf]
    (repeat' first|refine vsx ?_|(with_reducible refine aS ?_)|((with_reducible refine gK ?_);refine gI aX ?_)|(refine br ?_ ?_<;>first|exact bo|intro _)|fail)
    all_goals try(exfalso;first|omega|contradiction)
    refine s.now (fun s2=>?_) aA
    have wX:=s2.w
    have h1X:1≤(x.st.length:Int):=by exact h1
    have htX:x.tasks[k]? =some t:=by exact ht
    have hkX:=(List.getElem?_eq_some_iff.1 htX).1
    obtain⟨yy,hyy⟩:=lD h1X t.trace
    have Mj:=iG (t:=t.trace) h1X
    obtain⟨b1,o1,e1⟩:=wX.r1.sl hyy;have e1:v1= .sl b1 o1 x.st.length:=e1;subst e1;have l1:b1 < _:=fO wX.r1
    have bkX:Bk _ b [AV.int .i64 x.c.cB,AV.int .i64 x.c.wait,AV.int .i64 x.c.budget,AV.int .i64 x.c.cache,AV.int .i64 x.c.queue,AV.int .i64 x.c.rate,AV.int .i64 x.c.aV,AV.int .i64 x.c.rule.kind,AV.int .i64 x.c.rule.n,AV.str x.c.rule.key,AV.str x.c.rule.text,v0,AV.int .i64 x.time,AV.bool x.shut,(AV.sl b1 o1 x.st.length),AV.int .i64 x.bQ,AV.int .i64 x.b.rate,AV.int .i64 x.b.aV,AV.int .i64 x.b.tokens,AV.int .i64 x.b.at_,v2,AV.int .i64 x.used,AV.int .i64 x.w.now,v3,v4,v5,v6,v7,v8,(AV.sl b9 o9 x.tasks.length),v10,AV.int .i64 x.next] 0:=wX.bk
    obtain⟨mW,Ao,AX,ez,Am,AY,AP,AU,AO,AQ,AZ,uL,qw⟩:=s2.kT (bb:=b1) (off:=o1) hyy rfl;have ez:EK aM _ _ _ b1 (o1+(stripe t.trace x.st.length).toNat * 2) [.int .i64 yy.held,mW] _ _ _ _:=ez
    have atz:=ez.at_
    (repeat' first|((with_reducible refine dQ ?_);refine EK.st_ (ez.ext aA) (by rfl) (by rfl) bP ?_;intro h_ ez k_ n_)|refine vsx ?_|(with_reducible refine aS ?_)|((with_reducible refine aP ?_);first|refine bN (by omega) ?_|refine dY (by omega) (by omega) ?_)|((with_reducible refine ay eU ?_);refine aK iq ?_)|fail)
    obtain⟨x8,F8,e8,s8,m8⟩:=qw _ {yy with held:=-1} rfl ez
    have ht8:x8.tasks[k]? =some t:=by rw[e8];exact htX
    obtain⟨eO,eG,jL,jK,jS,et,jJ,jI,jT,jP,jR,jO,jQ,jU,iU,fB⟩:=s8.fH (bb:=b9) (off:=o9) ht8 rfl;have et:EK Task _ _ _ b9 (o9+k * 12) [.int .i64 t.op,.int .i64 t.pc,.int .i64 t.s.trace,.int .i64 t.s.id,.int .i64 t.s.start,.int .i64 t.s.fin,.bool t.s.err,eO,.int .i64 t.trace,.int .i64 t.stamp,eG,.int .i64 t.h] _ _ _ _:=et
    (repeat' first|((with_reducible refine dQ ?_);refine EK.st_ (et.ext aA) (by rfl) (by rfl) bP ?_;intro h_ et k_ n_)|refine vsw ?_|(with_reducible refine aS ?_)|((with_reducible refine aP ?_);refine bN (by omega) ?_)|fail)
    obtain⟨x9,F9,e9x,s9,m9⟩:=fB _ {t with pc:=0,trace:=0,stamp:=0} rfl rfl et
    have e:x9=lV x k t:=by rw[EZ eD.symm hyy rfl,e9x,e8]
    rw[e] at s9
    exact⟨rfl,_,rfl,rfl,s9.done⟩
  ·have hf':fF x.st t.trace=false:=by simpa using hf
   rw[hf']
   (repeat' first|refine vsx ?_|(with_reducible refine aS ?_)|((with_reducible refine gK ?_);refine gI aX ?_)|fail)
   all_goals try(exfalso;first|omega|contradiction)
   refine s.now (fun s2=>?_) aA
   have wX:=s2.w
   have h1X:1≤(x.st.length:Int):=by exact h1
   have htX:x.tasks[k]? =some t:=by exact ht
   have hkX:=(List.getElem?_eq_some_iff.1 htX).1
   obtain⟨yy,hyy⟩:=lD h1X t.trace
   have Mj:=iG (t:=t.trace) h1X
   obtain⟨b1,o1,e1⟩:=wX.r1.sl hyy;have e1:v1= .sl b1 o1 x.st.length:=e1;subst e1;have l1:b1 < _:=fO wX.r1
   have bkX:Bk _ b [AV.int .i64 x.c.cB,AV.int .i64 x.c.wait,AV.int .i64 x.c.budget,AV.int .i64 x.c.cache,AV.int .i64 x.c.queue,AV.int .i64 x.c.rate,AV.int .i64 x.c.aV,AV.int .i64 x.c.rule.kind,AV.int .i64 x.c.rule.n,AV.str x.c.rule.key,AV.str x.c.rule.text,v0,AV.int .i64 x.time,AV.bool x.shut,(AV.sl b1 o1 x.st.length),AV.int .i64 x.bQ,AV.int .i64 x.b.rate,AV.int .i64 x.b.aV,AV.int .i64 x.b.tokens,AV.int .i64 x.b.at_,v2,AV.int .i64 x.used,AV.int .i64 x.w.now,v3,v4,v5,v6,v7,v8,(AV.sl b9 o9 x.tasks.length),v10,AV.int .i64 x.next] 0:=wX.bk
   obtain⟨mW,Ao,AX,ez,Am,AY,AP,AU,AO,AQ,AZ,uL,qw⟩:=s2.kT (bb:=b1) (off:=o1) hyy rfl;have ez:EK aM _ _ _ b1 (o1+(stripe t.trace x.st.length).toNat * 2) [.int .i64 yy.held,mW] _ _ _ _:=ez
   have atz:=ez.at_
   (repeat' first|((with_reducible refine dQ ?_);refine EK.st_ (ez.ext aA) (by rfl) (by rfl) bP ?_;intro h_ ez k_ n_)|refine vsx ?_|(with_reducible refine aS ?_)|((with_reducible refine aP ?_);first|refine bN (by omega) ?_|refine dY (by omega) (by omega) ?_)|((with_reducible refine ay eU ?_);refine aK iq ?_)|fail)
   obtain⟨x8,F8,e8,s8,m8⟩:=qw _ {yy with held:=-1} rfl ez
   have ht8:x8.tasks[k]? =some t:=by rw[e8];exact htX
   obtain⟨eO,eG,jL,jK,jS,et,jJ,jI,jT,jP,jR,jO,jQ,jU,iU,fB⟩:=s8.fH (bb:=b9) (off:=o9) ht8 rfl;have et:EK Task _ _ _ b9 (o9+k * 12) [.int .i64 t.op,.int .i64 t.pc,.int .i64 t.s.trace,.int .i64 t.s.id,.int .i64 t.s.start,.int .i64 t.s.fin,.bool t.s.err,eO,.int .i64 t.trace,.int .i64 t.stamp,eG,.int .i64 t.h] _ _ _ _:=et
   (repeat' first|((with_reducible refine dQ ?_);refine EK.st_ (et.ext aA) (by rfl) (by rfl) bP ?_;intro h_ et k_ n_)|refine vsw ?_|(with_reducible refine aS ?_)|((with_reducible refine aP ?_);refine bN (by omega) ?_)|fail)
   obtain⟨x9,F9,e9x,s9,m9⟩:=fB _ {t with pc:=0,trace:=0,stamp:=0} rfl rfl et
   have e:x9=lV x k t:=by rw[EZ eD.symm hyy rfl,e9x,e8]
   rw[e] at s9
   exact⟨rfl,_,rfl,rfl,s9.done⟩
end Go.Proofs.YtekfdoknfcedpaaGreat
