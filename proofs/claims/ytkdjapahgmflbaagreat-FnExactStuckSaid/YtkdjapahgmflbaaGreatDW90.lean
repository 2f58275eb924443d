import Derived.Test.YtkdjapahgmflbaaGreatDW72
import Derived.Test.YtkdjapahgmflbaaGreatDAb57
import Derived.Test.YtkdjapahgmflbaaGreatDKW2
import Derived.Test.YtkdjapahgmflbaaGreatDW87
import Derived.Test.YtkdjapahgmflbaaGreatDW89
section
set_option linter.unusedSimpArgs false
set_option linter.unusedVariables false
set_option maxHeartbeats 2000000
namespace Go.Proofs.YtkdjapahgmflbaaGreat
open Go Go.Ab Go.RowKit
attribute[local irreducible] cZ
section
end
section
variable{P:Program} {f:FuncId} {h H g:AH} {x y:Wld} {cs ss:List AV} {F:List Nat} {Q:Nat→List AV→AH→Prop}
theorem qW {z B:Nat} {V V2:WV} {G F2:WF} {ok:Bool} {z0:List AV} (w:PW (z+1) H B x V G) (bz:Bk H z z0 0) (e:Ext h H) (hn:h.n≤z) (s:WS (z+1) H.n H B G g y V2 F2):1=1∧∃ v,[AV.tup [.agg (y.cv V2),.bool ok]]=[v]∧nu h y ok v (g.upd z ⟨y.cv V2,0,0⟩):=by
 have k:=s.mv.kp
 have hBo:∀ c∈B::G.a,z+1≤c:=fun c hc=>by
  rcases List.mem_cons.1 hc with q|q
  ·rw[q];exact w.nb
  ·exact(w.own.1.2 c q).1
 have bz2:=bF k bz (fun hm=>by have:=hBo _ hm;omega)
 have e2:Ext h g:=Kp.ext e k fun c hc=>by have:=hBo c hc;omega
 exact qX s.w bz2 e2 hn
end
end Go.Proofs.YtkdjapahgmflbaaGreat
end
section
set_option linter.unusedSimpArgs false
set_option linter.unusedVariables false
set_option maxHeartbeats 4000000
set_option maxRecDepth 20000
namespace Go.Proofs.YtkdjapahgmflbaaGreat
open Go Go.Ab
attribute[local irreducible] cZ
section
def UN (x0 x1:AV):Prog:=Lf 29 x0 fun a=>Ix 12 a x1 fun a=>.op (.fad 2 a) fun a=>Ld 6 a fun a=>.op (.alloc iZ) fun b=>.op (.st 6 b a) fun _=>.op (.bg x0) fun a=>.op (.fad 14 a) fun a=>.op (.ld1 a) fun c=>Lg 0 b fun d=>Lf 14 x0 fun e=>Ln 0 e fun e=>Cl jU [d,e] fun d=>.chk (.ld1 a) c (Ix 2 c d fun a=>Lf 31 x0 fun c=>Lf 1 a fun d=>Lg 0 b fun e=>Cl oJ [d,e] fun d=>Bn .geq d (.int .i64 0) fun e=>.scope (.ite e (Lf 1 a fun a=>Ix 4 a d fun a=>Lg 1 a fun a=>.leaf 0 [a]) (.op (.bg x0) fun a=>.op (.fad 22 a) fun a=>Ld 4 a fun d=>.op (.fad 0 b) fun b=>.op (.ld1 b) fun e=>.op (.bg x0) fun f=>.op (.fad 0 f) fun f=>Ld 12 f fun f=>.op (.bg x0) fun i=>.op (.fad 22 i) fun i=>Lg 0 i fun i=>Cl D9 [f,i] fun f=>.chk (.ldn 4 a) d (.chk (.ld1 b) e (.op (.build [.int .i64 0,.int .i64 0,.int .i64 0] [(0,1,c),(1,1,e),(2,1,f)]) fun a=>Cl Lp [d,a] fun a=>.op (.ext a 0) fun b=>.op (.ext a 1) fun _=>.op (.bg x0) fun a=>.op (.fad 22 a) fun a=>.op (.st 4 a b) fun _=>Lf 31 x0 fun a=>Bn .add a (.int .i64 1) fun a=>Sf 31 x0 a fun _=>.leaf 0 [c])))) (fun c=>Lf 1 a fun d=>Ld 6 b fun e=>.op (.bg x0) fun f=>.op (.fad 22 f) fun f=>Lg 0 f fun f=>Cl K5 [d,e,g c 0,f] fun d=>Sf 1 a d fun _=>.op (.bg x0) fun a=>.op (.fad 21 a) fun a=>.op (.ld1 a) fun d=>Ld 6 b fun b=>Cl kJ [b] fun b=>.chk (.ld1 a) d (Bn .add d b fun a=>Sf 21 x0 a fun _=>Cl xk [x0,x1,.int .i64 1,g c 0] fun _=>.fin [])) fun a b=>aB a 1 (.leaf 1 b) .bad)
theorem aiX (x0 x1:AV):CC Tryz.prog Lb [x0,x1] (UN x0 x1):=cc Tryz.func229 [0,1,4,5,6] (fun r=>if r=1 then[(0,[]),(1,[]),(2,[]),(3,[]),(4,[]),(5,[]),(6,[]),(7,[]),(8,[]),(9,[]),(10,[]),(11,[3]),(12,[]),(13,[])] else if r=3 then[(0,[]),(1,[]),(2,[]),(3,[]),(4,[]),(5,[]),(6,[]),(7,[])] else if r=6 then[(0,[]),(1,[]),(2,[]),(3,[]),(4,[]),(5,[]),(6,[]),(7,[]),(8,[]),(9,[]),(10,[]),(11,[]),(12,[]),(13,[]),(14,[]),(15,[]),(16,[]),(17,[4,7]),(18,[]),(19,[]),(20,[]),(21,[]),(22,[]),(23,[]),(24,[]),(25,[])] else if r=8 then[(0,[]),(1,[]),(2,[]),(3,[]),(4,[]),(5,[]),(6,[]),(7,[]),(8,[]),(9,[]),(10,[]),(11,[]),(12,[]),(13,[]),(14,[]),(15,[])] else if r=9 then[(0,[]),(1,[]),(2,[]),(3,[]),(4,[]),(5,[3]),(6,[]),(7,[]),(8,[]),(9,[])] else[])
end
section
variable{x:Wld} {t:Task} {y:aQ}
theorem aj4 (hy:x.st[(stripe t.s.trace x.st.length).toNat]? =some y) (h:idx (isId t.s.trace) y.l < 0):eG x.st t.s.trace=false:=by
 have:fq x.st t.s.trace=none:=by unfold fq;rw[hy];simp only[tq];rw[if_pos h]
 exact(qN this).2
theorem ajq (hy:x.st[(stripe t.s.trace x.st.length).toNat]? =some y) (h: ¬ idx (isId t.s.trace) y.l < 0):∃ (j:Nat) (o:Trail),idx (isId t.s.trace) y.l=(j:Int)∧y.l[j]? =some o∧eG x.st t.s.trace=true∧cO x.st t.s.trace=o:=by
 obtain⟨j,o,hj,ho,-,-⟩:=WJ h
 have:fq x.st t.s.trace=some o:=by unfold fq;rw[hy];simp only[tq];rw[if_neg h,hj,Int.toNat_natCast];exact ho
 exact⟨j,o,hj,ho,(mV this).2,(mV this).1⟩
end
theorem aiM {h:AH} {n b k:Nat} {x:Wld} {V:WV} {F:WF} {t:Task} {d:bI} (w:PW n h b x V F) (ht:x.tasks[k]? =some t) (hd:x.aF[t.h.toNat]? =some d) (h0:0≤t.h) (h1:1≤(x.st.length:Int)) (hs:Sz.sz x≤33554432):bN Tryz.prog Lb [.ptr b 0,.int .i64 (k:Int)] h fun v h'=>v= .tup []∧kX n h.n h b F (oq (jQ x t) k t 1 (jA x t)) h':=by
 obtain⟨v0,v1,v2,v3,v4,v5,v6,v7,v8,v9,v10⟩:=V
 obtain⟨y,hy⟩:=lu h1 t.s.trace
 have hsb:=iU (t:=t.s.trace) h1
 have hk:k < x.tasks.length:=(List.getElem?_eq_some_iff.1 ht).1
 have hst:=tY hs
 have htk:=(vQ hs ht).1
 have s:=w.ws
 obtain⟨b1,o1,e1⟩:=w.r1.sl hy;have e1:v1= .sl b1 o1 x.st.length:=e1;subst e1;have l1:b1 < _:=dZ w.r1;obtain⟨b9,o9,e9⟩:=w.r9.sl ht;have e9:v9= .sl b9 o9 x.tasks.length:=e9;subst e9;have l9:b9 < _:=dZ w.r9
 have bk:=bkE w
 have hb:=bk.1
 obtain⟨dI,dJ,dU,j6,kG,ek,j5,j4,kH,iT,kF,kD,kE,jT,jk,gW⟩:=s.dL (bb:=b9) (off:=o9) ht rfl;have ek:EK Task _ _ _ b9 (o9+k * 12) [.int .i64 t.op,.int .i64 t.pc,.int .i64 t.s.trace,.int .i64 t.s.id,.int .i64 t.s.start,.int .i64 t.s.fin,.bool t.s.err,dI,.int .i64 t.trace,.int .i64 t.stamp,dJ,.int .i64 t.h] _ _ _ _:=ek
 have at9:=ek.at_
 obtain⟨kW,kT,wR,ey,wH,uE,rH,wQ,wO,wP,rJ,rz,lV⟩:=s.kS (bb:=b1) (off:=o1) hy rfl;have ey:EK aQ _ _ _ b1 (o1+(stripe t.s.trace x.st.length).toNat * 2) [.int .i64 y.held,kW] _ _ _ _:=ey
 have at1:=ey.at_
 have nq0:b ∉ dU:=fun hm=>w.n9 (iT b (List.mem_append_left _ hm)).2
 have nq1:b1 ∉ dU:=fun hm=>w.sep.dis 1 9 _ _ (by decide) rfl rfl b1 rJ (iT b1 (List.mem_append_left _ hm)).2
 have nqy:b ∉ kT:=fun hm=>w.n1 (rH b hm).2
 have hsl:y.l.length+szs y.l≤33554432:=by have:=bC (List.mem_of_getElem? hy);have e:Sz.sz y=y.l.length+szs y.l:=rfl;omega
 have hws:Sz.sz x.w≤33554432:=by rw[wsz] at hs;show(x.w.near.length+szs x.w.near)+(x.w.far.length+szs x.w.far)+(x.w.rest.length+szs x.w.rest)≤_;omega
 have r3:au h v3 x.w.near F.f3:=w.r3
 have r4:au h v4 x.w.far F.f4:=w.r4
 have r5:au h v5 x.w.rest F.f5:=w.r5
 have b3:b ∉ F.f3:=w.n3
 have b4:b ∉ F.f4:=w.n4
 have b5:b ∉ F.f5:=w.n5
 refine aiX _ _ ?_
 unfold UN
 by_cases hf:idx (isId t.s.trace) y.l < 0
 ·have hfb:=aj4 hy hf
  have hfn: ¬ eG x.st t.s.trace=true:=by rw[hfb];decide
  have hsf:jA x t=x.next:=by unfold jA;rw[if_neg hfn]
  rw[hsf]
  (repeat' first|refine vsx ?_|refine ao4 ?_|(refine br ?_ ?_<;>first|exact bo|intro _)|((with_reducible refine aA jU ?_);refine aJ rZ ?_)|((with_reducible refine aA oJ ?_);(refine aJ (Ae (F:=kT) (xs:=y.l) ah) ?_))|((with_reducible refine aA D9 ?_);(refine aJ (acT (c:=x.c)) ?_))|fail)
  refine aK (ajb (w:=x.w) (t:=⟨x.next,t.s.trace,iK x.w.now x.c.wait⟩) hws (ah:au _ v3 x.w.near F.f3) (ah:au _ v4 x.w.far F.f4) (ah:au _ v5 x.w.rest F.f5)) ?_
  rintro _ h5 ⟨e5,_,_,rfl,⟨c0,c1,c2,p0,p1,p2,rfl,rfl,q0,q1,q2⟩,o5⟩
  have n5:=e5.1;(try simp only[aH,aN] at n5)
  have op0:=dA o5;have op1:=dA (bD o5);have op2:=bD (bD o5)
  have l5:∀ c∈p0++(p1++p2),c < h5.n:=fun c hc=>by
   rcases List.mem_append.1 hc with q|q
   ·exact q0.lt c q
   rcases List.mem_append.1 q with q|q
   ·exact q1.lt c q
   ·exact q2.lt c q
  have p5:∀ c∈p0++(p1++p2),h.n+1≤c:=fun c hc=>by have:=(o5.2 c hc).1;(try simp only[aH,aN] at this);omega
  have hx0:b ∉ p0:=fun hm=>by have:=p5 b (List.mem_append_left _ hm);omega
  have hx1:b ∉ p1:=fun hm=>by have:=p5 b (List.mem_append_right _ (List.mem_append_left _ hm));omega
  have hx2:b ∉ p2:=fun hm=>by have:=p5 b (List.mem_append_right _ (List.mem_append_right _ hm));omega
  have o5L:bO _ h5 (p0++(p1++p2)):=⟨o5,l5⟩
  (repeat' first|(with_reducible refine eu ?_)|refine vsx ?_|(with_reducible refine aW ?_)|refine gS ?_|fail)
  refine s.Ij {x with next:=wr (x.next+1),w:=fA x.w ⟨x.next,t.s.trace,iK x.w.now x.c.wait⟩} (ah:au _ c0 (fA x.w ⟨x.next,t.s.trace,iK x.w.now x.c.wait⟩).near p0) (ah:au _ c1 (fA x.w ⟨x.next,t.s.trace,iK x.w.now x.c.wait⟩).far p1) (ah:au _ c2 (fA x.w ⟨x.next,t.s.trace,iK x.w.now x.c.wait⟩).rest p2) ((dN (dN o5L (fun hm=>by have:=p5 b hm;omega)) (fun hm=>by have:=p5 b hm;omega)).1) (by simp only[aH,aN];omega) (fun x3 e3 s3=>?_)
  have hy3:x3.st[(stripe t.s.trace x.st.length).toNat]? =some y:=by rw[e3];exact hy
  obtain⟨mJ,zi,zJ,ez,zh,zK,zG,zI,zF,zH,wN,uj,og⟩:=s3.kS (bb:=b1) (off:=o1) hy3 rfl;have ez:EK aQ _ _ _ b1 (o1+(stripe t.s.trace x.st.length).toNat * 2) [.int .i64 y.held,mJ] _ _ _ _:=ez
  refine aK (Ug (F:=kT) (Fs:=dU) (l:=y.l) (s:=t.s) (st:=x.next) (nw:=(fA x.w ⟨x.next,t.s.trace,iK x.w.now x.c.wait⟩).now) (by omega) (by omega) ah ah) ?_
  rintro va h3 ⟨e4,f3,q3,o3⟩
  have n3:=e4.1;(try simp only[aH,aN] at n3)
  have fo:∀ c∈f3,h.n≤c:=fun c hc=>by have:=(o3.2 c hc).1;(try simp only[aH,aN] at this);omega
  have fo2:∀ c∈f3,c ∉ ({F with f3:=p0,f4:=p1,f5:=p2}:WF).a:=fun c hc hF=>by have:=(o3.2 c hc).1;have:=s3.lt c hF;omega
  (repeat' first|refine vsx ?_|(with_reducible refine aW ?_)|fail)
  refine EK.st_ (ez.ext aD) q3.cell (by rfl) aX ?_
  intro h4 ez k4 n4
  have nb1:b1 ∉ f3:=fun hm=>by have:=fo _ hm;omega
  obtain⟨x1,F1,e1,s1,m1⟩:=uj h4 {y with l:=lN y.l t.s x.next (fA x.w ⟨x.next,t.s.trace,iK x.w.now x.c.wait⟩).now} va f3 ez (aL k4 q3 (jh nb1)) ((dD k4 ⟨o3,q3.lt⟩ (jh nb1)).1.mono (by have:=w.nb;simp only[aH,aN];omega) fun _ _=>rfl) (fun c hc=>.inr ⟨by have:=fo c hc;omega,fo2 c hc,fo c hc⟩)
  (repeat' first|(with_reducible refine eu ?_)|refine vsx ?_|(with_reducible refine aW ?_)|((with_reducible refine aA kJ ?_);(refine aJ (sK (s:=t.s) (F:=dU) (by omega) ah) ?_))|fail)
  refine s1.iR {x1 with used:=wr (x.used+dW t.s)} (fun x2 e2 s2=>?_) iq (by rw[e1,e3];rfl)
  have e4:x2=jQ x t:=by rw[e2,e1,e3,Xt,XL hy hfn]
  have ht2:x2.tasks[k]? =some t:=by rw[e2,e1,e3];exact ht
  have hd2:x2.aF[t.h.toNat]? =some d:=by rw[e2,e1,e3];exact hd
  have h12:1≤(x2.st.length:Int):=by rw[e2,e1,e3];simpa using h1
  refine aK (Aa s2.w ht2 hd2 h0 h12) ?_
  rintro _ h9 ⟨rfl,W⟩
  obtain⟨V9,F9,s9,-⟩:=s2.call W
  (repeat' first|refine vsw ?_|(refine br ?_ ?_<;>first|exact bx|intro _)|((with_reducible refine aY ?_);((first|refine ix ?_|refine ixi ?_|(refine ixg ?_;intro _ _)|(refine ku ?_;intro _ _));first|rintro _ _ _ _ _ ⟨rfl,rfl⟩ _|rintro _ _ _ _ _ ⟨_,rfl,_⟩ _|rintro _ _ _ _ _ ⟨_,_,_,_,rfl,rfl,_,_⟩ _|intro _ _ _ _ _ _ _))|(refine sx ?_;intro _ _)|refine gS ?_|fail)
  rw[e4] at s9
  exact⟨rfl,_,rfl,rfl,s9.done⟩
 ·obtain⟨j,o,hj,ho,hfb,hft⟩:=ajq hy hf
  have hsf:jA x t=o.stamp:=by unfold jA;rw[if_pos hfb,hft]
  rw[hsf]
  have hjl:=(List.getElem?_eq_some_iff.1 ho).1
  (repeat' first|refine vsx ?_|refine ao4 ?_|(refine br ?_ ?_<;>first|exact bo|intro _)|((with_reducible refine aA jU ?_);refine aJ rZ ?_)|((with_reducible refine aA oJ ?_);(refine aJ (Ae (F:=kT) (xs:=y.l) ah) ?_;rw[hj]))|((with_reducible refine aY ?_);((refine ix ?_);rintro _ _ _ _ _ ⟨_,rfl,_⟩ _))|refine gS ?_|fail)
  refine aK (Ug (F:=kT) (Fs:=dU) (l:=y.l) (s:=t.s) (st:=o.stamp) (nw:=x.w.now) (by omega) (by omega) ah ah) ?_
  rintro va h3 ⟨e3,f3,q3,o3⟩
  have n3:=e3.1;(try simp only[aH,aN] at n3)
  have fo:∀ c∈f3,h.n≤c:=fun c hc=>by have:=(o3.2 c hc).1;(try simp only[aH,aN] at this);omega
  (repeat' first|refine vsx ?_|(with_reducible refine aW ?_)|fail)
  refine EK.st_ (ey.ext aD) q3.cell (by rfl) aX ?_
  intro h4 ey k4 n4
  have nb1:b1 ∉ f3:=fun hm=>by have:=fo _ hm;omega
  obtain⟨x1,F1,e1,s1,m1⟩:=rz h4 {y with l:=lN y.l t.s o.stamp x.w.now} va f3 ey (aL k4 q3 (jh nb1)) ((dD k4 ⟨o3,q3.lt⟩ (jh nb1)).1.mono (by have:=w.nb;simp;omega) fun _ _=>rfl) (fun c hc=>.inr ⟨by have:=fo c hc;omega,fun hF=>by have:=fo c hc;have:=s.lt c hF;omega,fo c hc⟩)
  (repeat' first|(with_reducible refine eu ?_)|refine vsx ?_|(with_reducible refine aW ?_)|((with_reducible refine aA kJ ?_);(refine aJ (sK (s:=t.s) (F:=dU) (by omega) ah) ?_))|fail)
  refine s1.iR {x1 with used:=wr (x.used+dW t.s)} (fun x2 e2 s2=>?_) iq (by rw[e1];rfl)
  have e4:x2=jQ x t:=by rw[e2,e1,XK hy hfb,hft]
  have ht2:x2.tasks[k]? =some t:=by rw[e2,e1];exact ht
  have hd2:x2.aF[t.h.toNat]? =some d:=by rw[e2,e1];exact hd
  have h12:1≤(x2.st.length:Int):=by rw[e2,e1];simpa using h1
  refine aK (Aa s2.w ht2 hd2 h0 h12) ?_
  rintro _ h9 ⟨rfl,W⟩
  obtain⟨V9,F9,s9,-⟩:=s2.call W
  (repeat' first|refine vsw ?_|(refine br ?_ ?_<;>first|exact bx|intro _)|((with_reducible refine aY ?_);((first|refine ix ?_|refine ixi ?_|(refine ixg ?_;intro _ _)|(refine ku ?_;intro _ _));first|rintro _ _ _ _ _ ⟨rfl,rfl⟩ _|rintro _ _ _ _ _ ⟨_,rfl,_⟩ _|rintro _ _ _ _ _ ⟨_,_,_,_,rfl,rfl,_,_⟩ _|intro _ _ _ _ _ _ _))|(refine sx ?_;intro _ _)|refine gS ?_|fail)
  rw[e4] at s9
  exact⟨rfl,_,rfl,rfl,s9.done⟩
end Go.Proofs.YtkdjapahgmflbaaGreat
end
