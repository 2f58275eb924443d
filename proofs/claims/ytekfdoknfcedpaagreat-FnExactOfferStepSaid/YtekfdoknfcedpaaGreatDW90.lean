import Derived.Test.YtekfdoknfcedpaaGreatDW87
import Derived.Test.YtekfdoknfcedpaaGreatDW89
set_option linter.unusedSimpArgs false
set_option linter.unusedVariables false
set_option maxHeartbeats 4000000
set_option maxRecDepth 20000
namespace Go.Proofs.YtekfdoknfcedpaaGreat
open Go Go.Ab
attribute[local irreducible] dI
section
def Sv (x0 x1:AV):Prog:=Lf 29 x0 fun a=>Ix 12 a x1 fun a=>.op (.fad 2 a) fun a=>Ld 6 a fun a=>.op (.alloc iJ) fun b=>.op (.st 6 b a) fun _=>.op (.bO x0) fun a=>.op (.fad 14 a) fun a=>.op (.ld1 a) fun c=>Lg 0 b fun d=>Lf 14 x0 fun e=>Ln 0 e fun e=>Cl iY [d,e] fun d=>.chk (.ld1 a) c (Ix 2 c d fun a=>Lf 31 x0 fun c=>Lf 1 a fun d=>Lg 0 b fun e=>Cl nC [d,e] fun d=>Bn .geq d (.int .i64 0) fun e=>.scope (.ite e (Lf 1 a fun a=>Ix 4 a d fun a=>Lg 1 a fun a=>.leaf 0 [a]) (.op (.bO x0) fun a=>.op (.fad 22 a) fun a=>Ld 4 a fun d=>.op (.fad 0 b) fun b=>.op (.ld1 b) fun e=>.op (.bO x0) fun f=>.op (.fad 0 f) fun f=>Ld 12 f fun f=>.op (.bO x0) fun i=>.op (.fad 22 i) fun i=>Lg 0 i fun i=>Cl CF [f,i] fun f=>.chk (.ldn 4 a) d (.chk (.ld1 b) e (.op (.build [.int .i64 0,.int .i64 0,.int .i64 0] [(0,1,c),(1,1,e),(2,1,f)]) fun a=>Cl J9 [d,a] fun a=>.op (.ext a 0) fun b=>.op (.ext a 1) fun _=>.op (.bO x0) fun a=>.op (.fad 22 a) fun a=>.op (.st 4 a b) fun _=>Lf 31 x0 fun a=>Bn .add a (.int .i64 1) fun a=>Sf 31 x0 a fun _=>.leaf 0 [c])))) (fun c=>Lf 1 a fun d=>Ld 6 b fun e=>.op (.bO x0) fun f=>.op (.fad 22 f) fun f=>Lg 0 f fun f=>Cl JU [d,e,g c 0,f] fun d=>Sf 1 a d fun _=>.op (.bO x0) fun a=>.op (.fad 21 a) fun a=>.op (.ld1 a) fun d=>Ld 6 b fun b=>Cl jv [b] fun b=>.chk (.ld1 a) d (Bn .add d b fun a=>Sf 21 x0 a fun _=>Cl vH [x0,x1,.int .i64 1,g c 0] fun _=>.fin [])) fun a b=>ak a 1 (.leaf 1 b) .bad)
theorem aiI (x0 x1:AV):CC Tryz.prog JY [x0,x1] (Sv x0 x1):=cc Tryz.func156 [0,1,4,5,6] (fun r=>if r=1 then[(0,[]),(1,[]),(2,[]),(3,[]),(4,[]),(5,[]),(6,[]),(7,[]),(8,[]),(9,[]),(10,[]),(11,[3]),(12,[]),(13,[])] else if r=3 then[(0,[]),(1,[]),(2,[]),(3,[]),(4,[]),(5,[]),(6,[]),(7,[])] else if r=6 then[(0,[]),(1,[]),(2,[]),(3,[]),(4,[]),(5,[]),(6,[]),(7,[]),(8,[]),(9,[]),(10,[]),(11,[]),(12,[]),(13,[]),(14,[]),(15,[]),(16,[]),(17,[4,7]),(18,[]),(19,[]),(20,[]),(21,[]),(22,[]),(23,[]),(24,[]),(25,[])] else if r=8 then[(0,[]),(1,[]),(2,[]),(3,[]),(4,[]),(5,[]),(6,[]),(7,[]),(8,[]),(9,[]),(10,[]),(11,[]),(12,[]),(13,[]),(14,[]),(15,[])] else if r=9 then[(0,[]),(1,[]),(2,[]),(3,[]),(4,[]),(5,[3]),(6,[]),(7,[]),(8,[]),(9,[])] else[])
end
section
variable{x:Wld} {t:Task} {y:aM}
theorem ajO (hy:x.st[(stripe t.s.trace x.st.length).toNat]? =some y) (h:idx (isId t.s.trace) y.l < 0):fF x.st t.s.trace=false:=by
 have:fu x.st t.s.trace=none:=by unfold fu;rw[hy];simp only[qO];rw[if_pos h]
 exact(pW this).2
theorem ai9 (hy:x.st[(stripe t.s.trace x.st.length).toNat]? =some y) (h: ¬ idx (isId t.s.trace) y.l < 0):∃ (j:Nat) (o:Trail),idx (isId t.s.trace) y.l=(j:Int)∧y.l[j]? =some o∧fF x.st t.s.trace=true∧dx x.st t.s.trace=o:=by
 obtain⟨j,o,hj,ho,-,-⟩:=Uq h
 have:fu x.st t.s.trace=some o:=by unfold fu;rw[hy];simp only[qO];rw[if_neg h,hj,Int.toNat_natCast];exact ho
 exact⟨j,o,hj,ho,(pV this).2,(pV this).1⟩
end
theorem aiB {h:AH} {n b k:Nat} {x:Wld} {V:WV} {F:WF} {t:Task} {d:bV} (w:PW n h b x V F) (ht:x.tasks[k]? =some t) (hd:x.aI[t.h.toNat]? =some d) (h0:0≤t.h) (h1:1≤(x.st.length:Int)) (hs:Sz.sz x≤33554432):bE Tryz.prog JY [.ptr b 0,.int .i64 (k:Int)] h fun v h'=>v= .tup []∧mZ n h.n h b F (mX (gZ x t) k t 1 (gG x t)) h':=by
 obtain⟨v0,v1,v2,v3,v4,v5,v6,v7,v8,v9,v10⟩:=V
 obtain⟨y,hy⟩:=lD h1 t.s.trace
 have hsb:=iG (t:=t.s.trace) h1
 have hk:k < x.tasks.length:=(List.getElem?_eq_some_iff.1 ht).1
 have hst:=xI hs
 have htk:=(zO hs ht).1
 have s:=w.ws
 obtain⟨b1,o1,e1⟩:=w.r1.sl hy;have e1:v1= .sl b1 o1 x.st.length:=e1;subst e1;have l1:b1 < _:=fO w.r1;obtain⟨b9,o9,e9⟩:=w.r9.sl ht;have e9:v9= .sl b9 o9 x.tasks.length:=e9;subst e9;have l9:b9 < _:=fO w.r9
 have bk:Bk h b [AV.int .i64 x.c.cB,AV.int .i64 x.c.wait,AV.int .i64 x.c.budget,AV.int .i64 x.c.cache,AV.int .i64 x.c.queue,AV.int .i64 x.c.rate,AV.int .i64 x.c.aV,AV.int .i64 x.c.rule.kind,AV.int .i64 x.c.rule.n,AV.str x.c.rule.key,AV.str x.c.rule.text,v0,AV.int .i64 x.time,AV.bool x.shut,(AV.sl b1 o1 x.st.length),AV.int .i64 x.bQ,AV.int .i64 x.b.rate,AV.int .i64 x.b.aV,AV.int .i64 x.b.tokens,AV.int .i64 x.b.at_,v2,AV.int .i64 x.used,AV.int .i64 x.w.now,v3,v4,v5,v6,v7,v8,(AV.sl b9 o9 x.tasks.length),v10,AV.int .i64 x.next] 0:=w.bk
 have hb:=bk.1
 obtain⟨fJ,fP,dW,nV,oz,ek,nU,nT,oC,jV,oq,oh,om,mY,mM,jq⟩:=s.fH (bb:=b9) (off:=o9) ht rfl;have ek:EK Task _ _ _ b9 (o9+k * 12) [.int .i64 t.op,.int .i64 t.pc,.int .i64 t.s.trace,.int .i64 t.s.id,.int .i64 t.s.start,.int .i64 t.s.fin,.bool t.s.err,fJ,.int .i64 t.trace,.int .i64 t.stamp,fP,.int .i64 t.h] _ _ _ _:=ek
 have at9:=ek.at_
 obtain⟨lg,kF,yu,ey,xQ,uT,rW,yj,yg,yh,rX,rO,lZ⟩:=s.kT (bb:=b1) (off:=o1) hy rfl;have ey:EK aM _ _ _ b1 (o1+(stripe t.s.trace x.st.length).toNat * 2) [.int .i64 y.held,lg] _ _ _ _:=ey
 have at1:=ey.at_
 have nq0:b ∉ dW:=fun hm=>w.n9 (jV b (List.mem_append_left _ hm)).2
 have nq1:b1 ∉ dW:=fun hm=>w.sep.dis 1 9 _ _ (by decide) rfl rfl b1 rX (jV b1 (List.mem_append_left _ hm)).2
 have nqy:b ∉ kF:=fun hm=>w.n1 (rW b hm).2
 have hsl:y.l.length+szs y.l≤33554432:=by have:=bf (List.mem_of_getElem? hy);have e:Sz.sz y=y.l.length+szs y.l:=rfl;omega
 have hws:Sz.sz x.w≤33554432:=by rw[wsz] at hs;show(x.w.near.length+szs x.w.near)+(x.w.far.length+szs x.w.far)+(x.w.rest.length+szs x.w.rest)≤_;omega
 have r3:aj h v3 x.w.near F.f3:=w.r3
 have r4:aj h v4 x.w.far F.f4:=w.r4
 have r5:aj h v5 x.w.rest F.f5:=w.r5
 have b3:b ∉ F.f3:=w.n3
 have b4:b ∉ F.f4:=w.n4
 have b5:b ∉ F.f5:=w.n5
 refine aiI _ _ ?_
 unfold Sv
 by_cases hf:idx (isId t.s.trace) y.l < 0
 ·have hfb:=ajO hy hf
  have hfn: ¬ fF x.st t.s.trace=true:=by rw[hfb];decide
  have hsf:gG x t=x.next:=by unfold gG;rw[if_neg hfn]
  rw[hsf]
  (repeat' first|refine vsx ?_|(with_reducible refine aS ?_)|(with_reducible refine pG ?_)|((with_reducible refine aP ?_);first|refine bN (by omega) ?_|refine dY (by omega) (by omega) ?_)|(refine br ?_ ?_<;>first|exact bo|intro _)|((with_reducible refine ay iY ?_);refine aK qx ?_)|((with_reducible refine ay nC ?_);(refine aK (yN (F:=kF) (xs:=y.l) ah) ?_))|((with_reducible refine ay CF ?_);(refine aK (adC (c:=x.c)) ?_))|fail)
  refine aG (aiU (w:=x.w) (t:=⟨x.next,t.s.trace,gV x.w.now x.c.wait⟩) hws (ah:aj _ v3 x.w.near F.f3) (ah:aj _ v4 x.w.far F.f4) (ah:aj _ v5 x.w.rest F.f5)) ?_
  rintro _ h5 ⟨e5,_,_,rfl,⟨c0,c1,c2,p0,p1,p2,rfl,rfl,q0,q1,q2⟩,o5⟩
  have n5:=e5.1;(try simp only[aD,aN] at n5)
  have op0:=bU o5;have op1:=bU (aJ o5);have op2:=aJ (aJ o5)
  have l5:∀ c∈p0++(p1++p2),c < h5.n:=fun c hc=>by
   rcases List.mem_append.1 hc with q|q
   ·exact q0.lt c q
   rcases List.mem_append.1 q with q|q
   ·exact q1.lt c q
   ·exact q2.lt c q
  have p5:∀ c∈p0++(p1++p2),h.n+1≤c:=fun c hc=>by have:=(o5.2 c hc).1;(try simp only[aD,aN] at this);omega
  have hx0:b ∉ p0:=fun hm=>by have:=p5 b (List.mem_append_left _ hm);omega
  have hx1:b ∉ p1:=fun hm=>by have:=p5 b (List.mem_append_right _ (List.mem_append_left _ hm));omega
  have hx2:b ∉ p2:=fun hm=>by have:=p5 b (List.mem_append_right _ (List.mem_append_right _ hm));omega
  have o5L:dh _ h5 (p0++(p1++p2)):=⟨o5,l5⟩
  (repeat' first|(with_reducible refine fK ?_)|refine vsx ?_|(with_reducible refine aS ?_)|((with_reducible refine bF ?_);simp only[g0,g1,g2]))
  refine s.Gd {x with next:=wr (x.next+1),w:=dP x.w ⟨x.next,t.s.trace,gV x.w.now x.c.wait⟩} (ah:aj _ c0 (dP x.w ⟨x.next,t.s.trace,gV x.w.now x.c.wait⟩).near p0) (ah:aj _ c1 (dP x.w ⟨x.next,t.s.trace,gV x.w.now x.c.wait⟩).far p1) (ah:aj _ c2 (dP x.w ⟨x.next,t.s.trace,gV x.w.now x.c.wait⟩).rest p2) ((eY (eY o5L (fun hm=>by have:=p5 b hm;omega)) (fun hm=>by have:=p5 b hm;omega)).1) (by simp only[aD,aN];omega) (fun x3 e3 s3=>?_)
  have hy3:x3.st[(stripe t.s.trace x.st.length).toNat]? =some y:=by rw[e3];exact hy
  obtain⟨mW,Ao,AX,ez,Am,AY,AP,AU,AO,AQ,AZ,uL,qw⟩:=s3.kT (bb:=b1) (off:=o1) hy3 rfl;have ez:EK aM _ _ _ b1 (o1+(stripe t.s.trace x.st.length).toNat * 2) [.int .i64 y.held,mW] _ _ _ _:=ez
  refine aG (RX (F:=kF) (Fs:=dW) (l:=y.l) (s:=t.s) (st:=x.next) (nw:=(dP x.w ⟨x.next,t.s.trace,gV x.w.now x.c.wait⟩).now) (by omega) (by omega) ah ah) ?_
  rintro va h3 ⟨e4,f3,q3,o3⟩
  have n3:=e4.1;(try simp only[aD,aN] at n3)
  have fo:∀ c∈f3,h.n≤c:=fun c hc=>by have:=(o3.2 c hc).1;(try simp only[aD,aN] at this);omega
  have fo2:∀ c∈f3,c ∉ ({F with f3:=p0,f4:=p1,f5:=p2}:WF).a:=fun c hc hF=>by have:=(o3.2 c hc).1;have:=s3.lt c hF;omega
  (repeat' first|refine vsx ?_|(with_reducible refine aS ?_)|fail)
  refine EK.st_ (ez.ext aA) q3.cell (by rfl) bP ?_
  intro h4 ez k4 n4
  have nb1:b1 ∉ f3:=fun hm=>by have:=fo _ hm;omega
  obtain⟨x1,F1,e1,s1,m1⟩:=uL h4 {y with l:=iE y.l t.s x.next (dP x.w ⟨x.next,t.s.trace,gV x.w.now x.c.wait⟩).now} va f3 ez (aC k4 q3 (iC nb1)) ((bq k4 ⟨o3,q3.lt⟩ (iC nb1)).1.mono (by have:=w.nb;simp only[aD,aN];omega) fun _ _=>rfl) (fun c hc=>.inr ⟨by have:=fo c hc;omega,fo2 c hc,fo c hc⟩)
  (repeat' first|(with_reducible refine fK ?_)|refine vsx ?_|(with_reducible refine aS ?_)|((with_reducible refine ay jv ?_);(refine aK (qD (s:=t.s) (F:=dW) (by omega) ah) ?_))|fail)
  refine s1.rV {x1 with used:=wr (x.used+dM t.s)} (fun x2 e2 s2=>?_) lW (by rw[e1,e3];rfl)
  have e4:x2=gZ x t:=by rw[e2,e1,e3,UO,Vd hy hfn]
  have ht2:x2.tasks[k]? =some t:=by rw[e2,e1,e3];exact ht
  have hd2:x2.aI[t.h.toNat]? =some d:=by rw[e2,e1,e3];exact hd
  have h12:1≤(x2.st.length:Int):=by rw[e2,e1,e3];simpa using h1
  refine aG (yM s2.w ht2 hd2 h0 h12) ?_
  rintro _ h9 ⟨rfl,W⟩
  obtain⟨V9,F9,s9,-⟩:=s2.call W
  (repeat' first|refine vsw ?_|(refine br ?_ ?_<;>first|exact bx|intro _)|((with_reducible refine aP ?_);((first|refine ix ?_|refine ixi ?_|(refine ixg ?_;intro _ _)|(refine kZ ?_;intro _ _));first|rintro _ _ _ _ _ ⟨rfl,rfl⟩ _|rintro _ _ _ _ _ ⟨_,rfl,_⟩ _|rintro _ _ _ _ _ ⟨_,_,_,_,rfl,rfl,_,_⟩ _|intro _ _ _ _ _ _ _))|(refine sx ?_;intro _ _)|((with_reducible refine bF ?_);simp only[g0,g1,g2]))
  rw[e4] at s9
  exact⟨rfl,_,rfl,rfl,s9.done⟩
 ·obtain⟨j,o,hj,ho,hfb,hft⟩:=ai9 hy hf
  have hsf:gG x t=o.stamp:=by unfold gG;rw[if_pos hfb,hft]
  rw[hsf]
  have hjl:=(List.getElem?_eq_some_iff.1 ho).1
  (repeat' first|refine vsx ?_|(with_reducible refine aS ?_)|(with_reducible refine pG ?_)|((with_reducible refine aP ?_);first|refine bN (by omega) ?_|refine dY (by omega) (by omega) ?_)|(refine br ?_ ?_<;>first|exact bo|intro _)|((with_reducible refine ay iY ?_);refine aK qx ?_)|((with_reducible refine ay nC ?_);(refine aK (yN (F:=kF) (xs:=y.l) ah) ?_;rw[hj]))|((with_reducible refine aP ?_);((refine ix ?_);rintro _ _ _ _ _ ⟨_,rfl,_⟩ _))|((with_reducible refine bF ?_);simp only[g0,g1,g2]))
  refine aG (RX (F:=kF) (Fs:=dW) (l:=y.l) (s:=t.s) (st:=o.stamp) (nw:=x.w.now) (by omega) (by omega) ah ah) ?_
  rintro va h3 ⟨e3,f3,q3,o3⟩
  have n3:=e3.1;(try simp only[aD,aN] at n3)
  have fo:∀ c∈f3,h.n≤c:=fun c hc=>by have:=(o3.2 c hc).1;(try simp only[aD,aN] at this);omega
  (repeat' first|refine vsx ?_|(with_reducible refine aS ?_)|fail)
  refine EK.st_ (ey.ext aA) q3.cell (by rfl) bP ?_
  intro h4 ey k4 n4
  have nb1:b1 ∉ f3:=fun hm=>by have:=fo _ hm;omega
  obtain⟨x1,F1,e1,s1,m1⟩:=rO h4 {y with l:=iE y.l t.s o.stamp x.w.now} va f3 ey (aC k4 q3 (iC nb1)) ((bq k4 ⟨o3,q3.lt⟩ (iC nb1)).1.mono (by have:=w.nb;simp;omega) fun _ _=>rfl) (fun c hc=>.inr ⟨by have:=fo c hc;omega,fun hF=>by have:=fo c hc;have:=s.lt c hF;omega,fo c hc⟩)
  (repeat' first|(with_reducible refine fK ?_)|refine vsx ?_|(with_reducible refine aS ?_)|((with_reducible refine ay jv ?_);(refine aK (qD (s:=t.s) (F:=dW) (by omega) ah) ?_))|fail)
  refine s1.rV {x1 with used:=wr (x.used+dM t.s)} (fun x2 e2 s2=>?_) lW (by rw[e1];rfl)
  have e4:x2=gZ x t:=by rw[e2,e1,Vb hy hfb,hft]
  have ht2:x2.tasks[k]? =some t:=by rw[e2,e1];exact ht
  have hd2:x2.aI[t.h.toNat]? =some d:=by rw[e2,e1];exact hd
  have h12:1≤(x2.st.length:Int):=by rw[e2,e1];simpa using h1
  refine aG (yM s2.w ht2 hd2 h0 h12) ?_
  rintro _ h9 ⟨rfl,W⟩
  obtain⟨V9,F9,s9,-⟩:=s2.call W
  (repeat' first|refine vsw ?_|(refine br ?_ ?_<;>first|exact bx|intro _)|((with_reducible refine aP ?_);((first|refine ix ?_|refine ixi ?_|(refine ixg ?_;intro _ _)|(refine kZ ?_;intro _ _));first|rintro _ _ _ _ _ ⟨rfl,rfl⟩ _|rintro _ _ _ _ _ ⟨_,rfl,_⟩ _|rintro _ _ _ _ _ ⟨_,_,_,_,rfl,rfl,_,_⟩ _|intro _ _ _ _ _ _ _))|(refine sx ?_;intro _ _)|((with_reducible refine bF ?_);simp only[g0,g1,g2]))
  rw[e4] at s9
  exact⟨rfl,_,rfl,rfl,s9.done⟩
end Go.Proofs.YtekfdoknfcedpaaGreat
