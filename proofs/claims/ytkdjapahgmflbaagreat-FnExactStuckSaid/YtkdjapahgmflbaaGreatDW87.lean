import Derived.Test.YtkdjapahgmflbaaGreatDW86
import Derived.Test.YtkdjapahgmflbaaGreatDW70
set_option linter.unusedSimpArgs false
set_option linter.unusedVariables false
set_option maxHeartbeats 4000000
set_option maxRecDepth 20000
namespace Go.Proofs.YtkdjapahgmflbaaGreat
open Go Go.Ab
attribute[local irreducible] cZ
section
def Q5 (x0 x1:AV):Prog:=Lf 29 x0 fun a=>Ix 12 a x1 fun a=>Ld 12 a fun a=>.op (.alloc gJ) fun b=>.op (.st 12 b a) fun _=>.op (.fad 2 b) fun a=>Lg 0 a fun a=>Lf 14 x0 fun c=>Ln 0 c fun c=>Cl d9 [a,c] fun a=>Lf 13 x0 fun c=>.ite c (Cl xG [x0,x1,.int .i64 4,.int .i64 0] fun _=>.fin [.val (.bool true)]) (Lf 20 x0 fun c=>.op (.fad 2 b) fun d=>Lg 0 d fun d=>.op (.alloc [.int .i64 0,.int .i64 0,.bool false]) fun e=>Cl pU [c,d] fun c=>.chk (.alloc [.int .i64 0,.int .i64 0,.bool false]) e (.op (.ext c 0) fun d=>.op (.ext c 1) fun c=>.op (.st 3 e d) fun _=>Gf c true 2 e fun d=>Pk c d (.bool false) fun d=>.ite d (Lf 27 x0 fun a=>Ln 0 a fun a=>.op (.bg x0) fun c=>.op (.fad 0 c) fun c=>Lg 4 c fun c=>Bn .geq a c fun a=>.ite a (.fin [.val (.bool false)]) (.op (.bg x0) fun a=>.op (.fad 27 a) fun a=>.op (.ld1 a) fun c=>.op (.fad 1 e) fun d=>.op (.ld1 d) fun f=>.op (.fad 2 b) fun b=>Ld 6 b fun b=>Cl lW [b] fun b=>.chk (.ld1 a) c (.chk (.ld1 d) f (.op (.build iO [(0,1,f),(1,6,b)]) fun a=>.op (.aU 7 1 iO [(0,7,a)]) fun a=>.op (.app 7 72 c a) fun a=>Sf 27 x0 a fun _=>Lg 1 e fun a=>Cl xG [x0,x1,.int .i64 2,a] fun _=>.fin [.val (.bool true)])))) (.ite c (Lg 1 e fun a=>Cl xG [x0,x1,.int .i64 3,a] fun _=>.fin [.val (.bool true)]) (.op (.bg x0) fun c=>.op (.fad 21 c) fun c=>.op (.ld1 c) fun d=>.op (.fad 2 b) fun e=>Ld 6 e fun e=>.op (.bg x0) fun f=>.op (.fad 0 f) fun f=>.op (.fad 2 f) fun f=>.op (.ld1 f) fun i=>Cl kI [e] fun e=>.chk (.ld1 c) d (.chk (.ld1 f) i (Bn .add d e fun c=>Bn .gtr c i fun c=>.ite c (Lf 14 x0 fun b=>Ix 2 b a fun a=>.op (.fad 0 a) fun a=>.op (.st 1 a (.int .i64 (-1))) fun _=>Lf 29 x0 fun a=>Ix 12 a x1 fun a=>Sg 1 a (.int .i64 2) fun _=>.fin [.val (.bool true)]) (Lf 14 x0 fun c=>.op (.fad 2 b) fun d=>Lg 0 d fun d=>.op (.alloc [.int .i64 0,.int .i64 0,.int .i64 0,.aC]) fun e=>Cl zT [c,d] fun c=>.chk (.alloc [.int .i64 0,.int .i64 0,.int .i64 0,.aC]) e (.op (.ext c 0) fun d=>.op (.ext c 1) fun c=>.op (.st 4 e d) fun _=>Lg 1 e fun d=>.op (.una .not c) fun c=>.scope (.ite c (Lf 31 x0 fun a=>Lf 31 x0 fun c=>Bn .add c (.int .i64 1) fun c=>Sf 31 x0 c fun _=>.op (.bg x0) fun c=>.op (.fad 22 c) fun c=>Ld 4 c fun d=>.op (.fad 2 b) fun b=>.op (.fad 0 b) fun b=>.op (.ld1 b) fun e=>.op (.bg x0) fun f=>.op (.fad 0 f) fun f=>Ld 12 f fun f=>.op (.bg x0) fun i=>.op (.fad 22 i) fun i=>Lg 0 i fun i=>.op (.alloc [.int .i64 0,.aC,.aC,.aC]) fun j=>Cl DR [f,i] fun f=>.chk (.ldn 4 c) d (.chk (.ld1 b) e (.chk (.alloc [.int .i64 0,.aC,.aC,.aC]) j (.op (.build [.int .i64 0,.int .i64 0,.int .i64 0] [(0,1,a),(1,1,e),(2,1,f)]) fun b=>Cl Ll [d,b] fun b=>.chk (.alloc [.int .i64 0,.aC,.aC,.aC]) j (.op (.ext b 0) fun c=>.op (.ext b 1) fun _=>.op (.st 4 j c) fun _=>Ld 4 j fun b=>.op (.bg x0) fun c=>.op (.fad 22 c) fun c=>.op (.st 4 c b) fun _=>.leaf 0 [a]))))) (.leaf 0 [d])) (fun c=>.op (.bg x0) fun d=>.op (.fad 14 d) fun d=>.op (.ld1 d) fun e=>Lf 14 x0 fun f=>Ix 2 f a fun f=>Lg 1 f fun f=>.op (.fad 2 b) fun i=>Ld 6 i fun i=>.op (.bg x0) fun j=>.op (.fad 22 j) fun j=>Lg 0 j fun j=>Cl KY [f,i,g c 0,j] fun f=>.chk (.ld1 d) e (Ix 2 e a fun a=>Sg 1 a f fun _=>.op (.bg x0) fun a=>.op (.fad 21 a) fun a=>.op (.ld1 a) fun d=>.op (.fad 2 b) fun b=>Ld 6 b fun b=>Cl kI [b] fun b=>.chk (.ld1 a) d (Bn .add d b fun a=>Sf 21 x0 a fun _=>Cl xG [x0,x1,.int .i64 1,g c 0] fun _=>.fin [.val (.bool true)]))) fun a b=>aB a 1 (.leaf 1 b) .bad))))))))
theorem ae1 (x0 x1:AV):CC Tryz.prog Ka [x0,x1] (Q5 x0 x1):=cc Tryz.func233 [0,1,5,6,11] (fun r=>if r=2 then[(0,[]),(1,[]),(2,[]),(3,[]),(4,[]),(5,[]),(6,[]),(7,[]),(8,[]),(9,[])] else if r=6 then[(0,[]),(1,[]),(2,[]),(3,[]),(4,[]),(5,[]),(6,[]),(11,[]),(7,[11]),(8,[]),(9,[]),(10,[]),(12,[]),(13,[])] else if r=8 then[(0,[]),(1,[]),(2,[]),(3,[]),(4,[]),(5,[]),(6,[]),(7,[]),(8,[]),(9,[]),(10,[])] else if r=10 then[(0,[]),(1,[]),(2,[]),(3,[]),(4,[]),(5,[]),(6,[]),(7,[]),(8,[]),(9,[4,6]),(10,[]),(11,[]),(12,[]),(13,[]),(14,[]),(15,[])] else if r=16 then[(0,[]),(1,[]),(2,[]),(3,[]),(4,[]),(5,[]),(8,[]),(9,[]),(10,[]),(11,[]),(12,[]),(6,[3,12]),(7,[]),(13,[])] else if r=20 then[(0,[]),(1,[]),(2,[]),(3,[]),(4,[]),(5,[]),(6,[]),(11,[]),(7,[11]),(8,[]),(9,[]),(10,[]),(12,[]),(13,[])] else if r=25 then[(0,[]),(1,[]),(2,[]),(3,[]),(4,[]),(5,[]),(6,[]),(7,[]),(8,[]),(9,[]),(10,[]),(11,[]),(12,[]),(13,[]),(14,[]),(15,[]),(16,[]),(23,[]),(17,[3,7,23]),(18,[]),(19,[23]),(20,[]),(21,[]),(22,[]),(24,[]),(25,[])] else if r=27 then[(0,[]),(1,[]),(2,[]),(3,[]),(4,[]),(5,[]),(6,[]),(7,[]),(8,[]),(9,[]),(10,[]),(11,[]),(12,[]),(13,[]),(14,[]),(15,[]),(16,[]),(17,[]),(18,[]),(19,[]),(20,[]),(21,[3]),(22,[]),(23,[]),(24,[])] else if r=28 then[(0,[]),(1,[]),(2,[]),(3,[]),(4,[]),(5,[]),(6,[]),(7,[4]),(8,[]),(9,[]),(10,[]),(11,[])] else[])
end
theorem oW {P:Program} {h:AH} {Q:Nat→List AV→AH→Prop} {c:Bool} {p q:Prog} (hc:c=false) (hk:q.awp P h Q):(Prog.ite (.bool c) p q).awp P h Q:=by subst hc;simp only[Prog.awp];simpa using hk
theorem Xt {w:bX} {t:Ab.Timer}:(fA w t).now=w.now:=by
 unfold fA
 split
 ·unfold fH;split
  ·rfl
  ·split<;>rfl
 ·rfl
theorem tY {x:Wld} {m:Nat} (hs:Sz.sz x≤m):x.st.length+szs x.st≤m:=by rw[wsz] at hs;omega
theorem vQ {x:Wld} {k:Nat} {t:Task} {m:Nat} (hs:Sz.sz x≤m) (ht:x.tasks[k]? =some t):Sz.sz t.s≤m∧t.hand.length+szs t.hand≤m:=by
 have:=bC (List.mem_of_getElem? ht)
 have e:Sz.sz t=Sz.sz t.s+(t.hand.length+szs t.hand):=rfl
 rw[wsz] at hs;omega
theorem XK {x:Wld} {t:Task} {y:aQ} (hy:x.st[(stripe t.s.trace x.st.length).toNat]? =some y) (h:eG x.st t.s.trace=true):jQ x t={x with st:=x.st.set (stripe t.s.trace x.st.length).toNat {y with l:=lN y.l t.s (cO x.st t.s.trace).stamp x.w.now},used:=wr (x.used+dW t.s)}:=by
 unfold jQ jA;rw[if_pos h,if_pos h,if_pos h,iQ hy]
theorem XL {x:Wld} {t:Task} {y:aQ} (hy:x.st[(stripe t.s.trace x.st.length).toNat]? =some y) (h: ¬ eG x.st t.s.trace=true):jQ x t={x with next:=wr (x.next+1),w:=fA x.w ⟨x.next,t.s.trace,iK x.w.now x.c.wait⟩,st:=x.st.set (stripe t.s.trace x.st.length).toNat {y with l:=lN y.l t.s x.next x.w.now},used:=wr (x.used+dW t.s)}:=by
 unfold jQ jA;rw[if_neg h,if_neg h,if_neg h,iQ hy]
theorem zO {h:AH} {xs:List bJ} {x0:AV} {F:List Nat} {k:Int} {v:bJ} {ok:Bool} (hv:vOf xs k=(v,ok)) (r:au h x0 xs F):aM Tryz.prog pU [x0,.int .i64 k] h (.tup [.agg [.int .i64 v.trace,.int .i64 v.stamp,.bool v.keep],.bool ok]):=by
 have:=aa7 (k:=k) r;rw[hv] at this;exact this
theorem adT {h:AH} {n b k:Nat} {x:Wld} {V:WV} {F:WF} {t:Task} {d:bI} (w:PW n h b x V F) (ht:x.tasks[k]? =some t) (hd:x.aF[t.h.toNat]? =some d) (h0:0≤t.h) (h1:1≤(x.st.length:Int)) (hs:Sz.sz x≤33554432):bN Tryz.prog Ka [.ptr b 0,.int .i64 (k:Int)] h (Stp n h b F (lookW x k t)):=by
 obtain⟨v0,v1,v2,v3,v4,v5,v6,v7,v8,v9,v10⟩:=V
 obtain⟨y,hy⟩:=lu h1 t.s.trace
 have hsb:=iU (t:=t.s.trace) h1
 have hk:k < x.tasks.length:=(List.getElem?_eq_some_iff.1 ht).1
 have hst:=tY hs
 have htk:=(vQ hs ht).1
 have s:=w.ws
 obtain⟨b1,o1,e1⟩:=w.r1.sl hy;have e1:v1= .sl b1 o1 x.st.length:=e1;subst e1;have l1:b1 < _:=dZ w.r1;obtain⟨b9,o9,e9⟩:=w.r9.sl ht;have e9:v9= .sl b9 o9 x.tasks.length:=e9;subst e9;have l9:b9 < _:=dZ w.r9
 have bk:=bkE w
 have hb:=bk.1
 have r1:au h (AV.sl b1 o1 x.st.length) x.st F.f1:=w.r1
 have r2:au h v2 x.cache F.f2:=w.r2
 have r7:au h v7 x.queue F.f7:=w.r7
 have b7:b ∉ F.f7:=w.n7
 obtain⟨dI,dJ,dU,j6,kG,ek,j5,j4,kH,iT,kF,kD,kE,jT,jk,gW⟩:=s.dL (bb:=b9) (off:=o9) ht rfl;have ek:EK Task _ _ _ b9 (o9+k * 12) [.int .i64 t.op,.int .i64 t.pc,.int .i64 t.s.trace,.int .i64 t.s.id,.int .i64 t.s.start,.int .i64 t.s.fin,.bool t.s.err,dI,.int .i64 t.trace,.int .i64 t.stamp,dJ,.int .i64 t.h] _ _ _ _:=ek
 have at9:=ek.at_
 obtain⟨kW,kT,wR,ey,wH,uE,rH,wQ,wO,wP,rJ,rz,lV⟩:=s.kS (bb:=b1) (off:=o1) hy rfl;have ey:EK aQ _ _ _ b1 (o1+(stripe t.s.trace x.st.length).toNat * 2) [.int .i64 y.held,kW] _ _ _ _:=ey
 have at1:=ey.at_
 have nq0:b ∉ dU:=fun hm=>w.n9 (iT b (List.mem_append_left _ hm)).2
 have nq1:b1 ∉ dU:=fun hm=>w.sep.dis 1 9 _ _ (by decide) rfl rfl b1 rJ (iT b1 (List.mem_append_left _ hm)).2
 have hqs:x.queue.length≤33554432:=by rw[wsz] at hs;omega
 have hsl:y.l.length+szs y.l≤33554432:=by have:=bC (List.mem_of_getElem? hy);have e:Sz.sz y=y.l.length+szs y.l:=rfl;omega
 have hws:Sz.sz x.w≤33554432:=by rw[wsz] at hs;show(x.w.near.length+szs x.w.near)+(x.w.far.length+szs x.w.far)+(x.w.rest.length+szs x.w.rest)≤_;omega
 have eyo:=uE.1
 have r3:au h v3 x.w.near F.f3:=w.r3
 have r4:au h v4 x.w.far F.f4:=w.r4
 have r5:au h v5 x.w.rest F.f5:=w.r5
 have b3:b ∉ F.f3:=w.n3
 have b4:b ∉ F.f4:=w.n4
 have b5:b ∉ F.f5:=w.n5
 have nqy:b ∉ kT:=fun hm=>w.n1 (rH b hm).2
 refine ae1 _ _ ?_
 unfold Q5
 by_cases hsh:x.shut=true
 ·have e:lookW x k t=some (om x k t 4 0):=by unfold lookW;rw[if_pos hsh]
  rw[e]
  rw[hsh] at bk
  (repeat' first|refine vsx ?_|refine ao4 ?_|((with_reducible refine aA d9 ?_);refine aJ iD ?_)|fail)
  refine s.now (fun s2=>?_) aD
  refine aK (Aj s2.w ht hd h0 h1) ?_
  rintro _ h9 ⟨rfl,W⟩
  obtain⟨V9,F9,s9,-⟩:=s2.call W
  (repeat' first|refine vsw ?_|fail)
  exact⟨rfl,_,rfl,rfl,s9.done⟩
 have hsh:x.shut=false:=by simpa using hsh
 obtain⟨L,hL0⟩:∃ L,L=lookW x k t:=⟨_,rfl⟩
 rw[←hL0]
 unfold lookW at hL0
 rw[if_neg (by rw[hsh];decide)] at hL0
 obtain⟨⟨vt,vst,vk⟩,ok,hv⟩:∃ v ok,vOf x.cache t.s.trace=(v,ok):=⟨_,_,rfl⟩
 rw[hv] at hL0
 have hql:=r7.small
 cases ok with
 |true=>
  rw[if_pos rfl] at hL0
  cases vk with
  |true=>
   rw[if_pos rfl] at hL0
   by_cases hq:x.c.queue≤(x.queue.length:Int)
   ·rw[if_pos hq] at hL0
    rw[hL0]
    (repeat' first|((with_reducible refine oW hsh ?_))|refine vsw ?_|refine ao4 ?_|((with_reducible refine fU ?_);refine fT aV ?_)|(refine br ?_ ?_<;>first|exact bo|intro _)|((with_reducible refine aA d9 ?_);refine aJ iD ?_)|((with_reducible refine aA pU ?_);refine aJ (zO hv ah) ?_)|fail)
    exact⟨rfl,_,rfl,rfl,Kp.iA aD⟩
   ·rw[if_neg hq] at hL0
    rw[hL0]
    (repeat' first|((with_reducible refine oW hsh ?_))|refine vsx ?_|refine ao4 ?_|((with_reducible refine fU ?_);refine fT aV ?_)|(refine br ?_ ?_<;>first|exact bo|intro _)|((with_reducible refine aA d9 ?_);refine aJ iD ?_)|((with_reducible refine aA pU ?_);refine aJ (zO hv ah) ?_)|refine gS ?_|fail)
    refine aK (sI t.s (by omega) _ _ _ ⟨_,rfl,ah⟩) ?_
    rintro _ h2 ⟨e2,_,G,rfl,⟨z,rfl,zq⟩,oG⟩
    have n2:=e2.1;(try simp only[aH,aN] at n2)
    (repeat' first|refine vsx ?_|fail)
    have s2:=s.ext (aD:Ext h h2)
    have oG':∀ c∈G,h.n+1+1≤c:=fun c hc=>by simpa using(oG.2 c hc).1
    refine s2.I4 (a:=⟨vst,t.s⟩) (G:=G) (q:=h.n) ⟨_,rfl,zq⟩ (oG.mono (by simp;omega) fun _ _=>rfl) ⟨by have:=w.nb;omega,Nat.le_refl _⟩ (fun c hc=>⟨by have:=oG' c hc;omega,fun hm=>by have:=oG' c hc;have:=s.lt c hm;omega⟩) (by omega) (by omega) ?_
    intro v' h3 k3 b3 cv3 fin
    have n3:=k3.1
    have bk3:Bk h3 b [AV.int .i64 x.c.eU,AV.int .i64 x.c.wait,AV.int .i64 x.c.budget,AV.int .i64 x.c.cache,AV.int .i64 x.c.queue,AV.int .i64 x.c.rate,AV.int .i64 x.c.bn,AV.int .i64 x.c.rule.kind,AV.int .i64 x.c.rule.n,AV.str x.c.rule.key,AV.str x.c.rule.text,v0,AV.int .i64 x.time,AV.bool x.shut,(AV.sl b1 o1 x.st.length),AV.int .i64 x.bS,AV.int .i64 x.b.rate,AV.int .i64 x.b.bn,AV.int .i64 x.b.tokens,AV.int .i64 x.b.at_,v2,AV.int .i64 x.used,AV.int .i64 x.w.now,v3,v4,v5,v6,v7,v8,(AV.sl b9 o9 x.tasks.length),v10,AV.int .i64 x.next] 0:=b3
    have hb3:=bk3.1
    (repeat' first|((with_reducible refine bW ?_);refine kU cv3 rfl (qQ bk3 aX) ?_)|refine vsx ?_|(with_reducible refine aW ?_)|fail)
    refine fin (fun x1 F1 e1 s3 m3=>?_) (fP hb3) rfl fO
    subst e1
    refine aK (Aj s3.w ht hd h0 h1) ?_
    rintro _ h9 ⟨rfl,W⟩
    obtain⟨V9,F9,s9,-⟩:=s3.call W
    (repeat' first|refine vsw ?_|fail)
    exact⟨rfl,_,rfl,rfl,s9.done⟩
  |false=>
   rw[if_neg (fun q=>Bool.false_ne_true q)] at hL0
   rw[hL0]
   (repeat' first|((with_reducible refine oW hsh ?_))|refine vsx ?_|refine ao4 ?_|((with_reducible refine fU ?_);refine fT aV ?_)|((with_reducible refine aA d9 ?_);refine aJ iD ?_)|((with_reducible refine aA pU ?_);refine aJ (zO hv ah) ?_)|refine gS ?_|fail)
   refine s.now (fun s2=>?_) aD
   refine aK (Aj s2.w ht hd h0 h1) ?_
   rintro _ h9 ⟨rfl,W⟩
   obtain⟨V9,F9,s9,-⟩:=s2.call W
   (repeat' first|refine vsw ?_|fail)
   exact⟨rfl,_,rfl,rfl,s9.done⟩
 |false=>
  rw[if_neg (fun q=>Bool.false_ne_true q)] at hL0
  by_cases hbu:x.c.budget < wr (x.used+dW t.s)
  ·rw[if_pos hbu] at hL0
   rw[hL0]
   have NT:x.c.budget < IntKind.i64.wrap (x.used+dW t.s):=hbu
   (repeat' first|((with_reducible refine oW hsh ?_))|(with_reducible refine eu ?_)|((with_reducible refine bW ?_);refine EK.st_ (ey.ext aD) (by rfl) (by rfl) aX ?_;intro h_ ey k_ n_)|refine vsx ?_|refine ao4 ?_|((with_reducible refine fU ?_);refine fT aV ?_)|(refine br ?_ ?_<;>first|exact bo|intro _)|((with_reducible refine aA d9 ?_);refine aJ iD ?_)|((with_reducible refine aA pU ?_);refine aJ (zO hv ah) ?_)|((with_reducible refine aA kI ?_);(refine aJ (sJ (s:=t.s) (F:=dU) (by omega) ah) ?_))|fail)
   obtain⟨x1,F1,e1,s1,m1⟩:=lV _ {y with held:=-1} rfl ey
   have ht1:x1.tasks[k]? =some t:=by rw[e1];exact ht
   obtain⟨bZ,bY,gF,gD,gU,et,gM,gL,gI,fZ,gT,gP,gQ,gV,fF,dH⟩:=s1.dL (bb:=b9) (off:=o9) ht1 rfl;have et:EK Task _ _ _ b9 (o9+k * 12) [.int .i64 t.op,.int .i64 t.pc,.int .i64 t.s.trace,.int .i64 t.s.id,.int .i64 t.s.start,.int .i64 t.s.fin,.bool t.s.err,bZ,.int .i64 t.trace,.int .i64 t.stamp,bY,.int .i64 t.h] _ _ _ _:=et
   (repeat' first|((with_reducible refine bW ?_);refine EK.st_ (et.ext aD) (by rfl) (by rfl) aX ?_;intro h_ et k_ n_)|refine vsw ?_|fail)
   obtain⟨x2,F2,e2,s2,m2⟩:=dH _ {t with pc:=2} rfl rfl et
   have e:x2={x with st:=gy x.st t.s.trace (-1),tasks:=x.tasks.set k {t with pc:=2}}:=by
    rw[e2,e1,qC hy]
   rw[e] at s2
   exact⟨rfl,_,rfl,rfl,s2.done⟩
  ·rw[if_neg hbu] at hL0
   rw[hL0]
   have NT: ¬ x.c.budget < IntKind.i64.wrap (x.used+dW t.s):=hbu
   (repeat' first|((with_reducible refine oW hsh ?_))|(with_reducible refine eu ?_)|refine vsx ?_|refine ao4 ?_|((with_reducible refine fU ?_);refine fT aV ?_)|(refine br ?_ ?_<;>first|exact bo|intro _)|((with_reducible refine aA d9 ?_);refine aJ iD ?_)|((with_reducible refine aA pU ?_);refine aJ (zO hv ah) ?_)|((with_reducible refine aA kI ?_);(refine aJ (sJ (s:=t.s) (F:=dU) (by omega) ah) ?_))|refine gS ?_|fail)
   refine aK (Jl (l:=x.st) (id:=t.s.trace) (by omega) ah) ?_
   rintro _ h2 ⟨e2,_,G2,rfl,⟨z2,rfl,zq2⟩,oG2⟩
   have n2:=e2.1;(try simp only[aH,aN] at n2)
   by_cases hf:eG x.st t.s.trace=true
   ·have hsf:jA x t=(cO x.st t.s.trace).stamp:=by unfold jA;rw[if_pos hf]
    rw[hsf,hf]
    (repeat' first|refine vsx ?_|refine ao4 ?_|((with_reducible refine fU ?_);refine fT aV ?_)|refine gS ?_|fail)
    refine aK (Ub (n:=n) (F:=kT) (Fs:=dU) (l:=y.l) (s:=t.s) (st:=(cO x.st t.s.trace).stamp) (nw:=x.w.now) (by omega) (by omega) ah bA ah) ?_
    rintro va h3 ⟨e3,f3,q3,o3⟩
    have n3:=e3.1;(try simp only[aH,aN] at n3)
    have fo:∀ c∈f3,h.n≤c:=fun c hc=>by have:=(o3.2 c hc).1;(try simp only[aH,aN] at this);omega
    (repeat' first|refine vsx ?_|refine ao4 ?_|fail)
    refine EK.st_ (ey.ext aD) q3.cell (by rfl) aX ?_
    intro h4 ey k4 n4
    have nb1:b1 ∉ f3:=fun hm=>by have:=fo _ hm;omega
    obtain⟨x1,F1,e1,s1,m1⟩:=rz h4 {y with l:=lN y.l t.s ((cO x.st t.s.trace).stamp) x.w.now} va f3 ey (aL k4 q3 (jh nb1)) ((dD k4 ⟨o3,q3.lt⟩ (jh nb1)).1.mono (by have:=w.nb;simp;omega) fun _ _=>rfl) (fun c hc=>.inr ⟨by have:=fo c hc;omega,fun hF=>by have:=fo c hc;have:=s.lt c hF;omega,fo c hc⟩)
    (repeat' first|(with_reducible refine eu ?_)|refine vsx ?_|(with_reducible refine aW ?_)|((with_reducible refine aA kI ?_);(refine aJ (sJ (s:=t.s) (F:=dU) (by omega) ah) ?_))|fail)
    refine s1.iR {x1 with used:=wr (x.used+dW t.s)} (fun x2 e2 s2=>?_) iq (by rw[e1];rfl)
    have e4:x2=jQ x t:=by rw[e2,e1,XK hy hf]
    have ht2:x2.tasks[k]? =some t:=by rw[e2,e1];exact ht
    have hd2:x2.aF[t.h.toNat]? =some d:=by rw[e2,e1];exact hd
    have h12:1≤(x2.st.length:Int):=by rw[e2,e1];simpa using h1
    refine aK (Aj s2.w ht2 hd2 h0 h12) ?_
    rintro _ h9 ⟨rfl,W⟩
    obtain⟨V9,F9,s9,-⟩:=s2.call W
    (repeat' first|refine vsw ?_|fail)
    rw[e4] at s9
    exact⟨rfl,_,rfl,rfl,s9.done⟩
   ·have hsf:jA x t=x.next:=by unfold jA;rw[if_neg hf]
    have hf':eG x.st t.s.trace=false:=by simpa using hf
    rw[hsf,hf']
    (repeat' first|(with_reducible refine eu ?_)|refine vsx ?_|(with_reducible refine aW ?_)|((with_reducible refine fU ?_);refine fT aV ?_)|((with_reducible refine aA DR ?_);(refine aJ (acA (c:=x.c)) ?_))|fail)
    refine aK (ai7 (w:=x.w) (t:=⟨x.next,t.s.trace,iK x.w.now x.c.wait⟩) hws (ah:au _ v3 x.w.near F.f3) (ah:au _ v4 x.w.far F.f4) (ah:au _ v5 x.w.rest F.f5)) ?_
    rintro _ h5 ⟨e5,_,_,rfl,⟨c0,c1,c2,p0,p1,p2,rfl,rfl,q0,q1,q2⟩,o5⟩
    have n5:=e5.1;(try simp only[aH,aN] at n5)
    have l5:∀ c∈p0++(p1++p2),c < h5.n:=fun c hc=>by
     rcases List.mem_append.1 hc with q|q
     ·exact q0.lt c q
     rcases List.mem_append.1 q with q|q
     ·exact q1.lt c q
     ·exact q2.lt c q
    have p5:∀ c∈p0++(p1++p2),h.n+1≤c:=fun c hc=>by have:=(o5.2 c hc).1;(try simp only[aH,aN] at this);omega
    have hx0:b ∉ p0:=fun hm=>by have:=p5 b (List.mem_append_left _ hm);omega
    have hx1:b ∉ p1:=fun hm=>by have:=p5 b (List.mem_append_right _ (List.mem_append_left _ hm));omega
    have hx2:b ∉ p2:=fun hm=>by have:=p5 b (List.mem_append_right _ (List.mem_append_right _ hm));omega
    (repeat' first|refine vsx ?_|refine ao4 ?_|((with_reducible refine fU ?_);refine fT aV ?_)|refine gS ?_|fail)
    have op0:=dA o5;have op1:=dA (bD o5);have op2:=bD (bD o5)
    have o5L:bO _ h5 (p0++(p1++p2)):=⟨o5,l5⟩
    refine s.Ij {x with next:=wr (x.next+1),w:=fA x.w ⟨x.next,t.s.trace,iK x.w.now x.c.wait⟩} (ah:au _ c0 (fA x.w ⟨x.next,t.s.trace,iK x.w.now x.c.wait⟩).near p0) (ah:au _ c1 (fA x.w ⟨x.next,t.s.trace,iK x.w.now x.c.wait⟩).far p1) (ah:au _ c2 (fA x.w ⟨x.next,t.s.trace,iK x.w.now x.c.wait⟩).rest p2) ((dN (dN o5L (fun hm=>by have:=(o5.2 _ hm).1;simp only[aH,aN] at this;omega)) (fun hm=>by have:=p5 b hm;omega)).1) (by simp only[aH,aN];omega) (fun x3 e3 s3=>?_)
    have hy3:x3.st[(stripe t.s.trace x.st.length).toNat]? =some y:=by rw[e3];exact hy
    obtain⟨mJ,zi,zJ,ez,zh,zK,zG,zI,zF,zH,wN,uj,og⟩:=s3.kS (bb:=b1) (off:=o1) hy3 rfl;have ez:EK aQ _ _ _ b1 (o1+(stripe t.s.trace x.st.length).toNat * 2) [.int .i64 y.held,mJ] _ _ _ _:=ez
    refine aK (Ub (n:=n) (F:=kT) (Fs:=dU) (l:=y.l) (s:=t.s) (st:=x.next) (nw:=(fA x.w ⟨x.next,t.s.trace,iK x.w.now x.c.wait⟩).now) (by omega) (by omega) ah bA ah) ?_
    rintro va h3 ⟨e4,f3,q3,o3⟩
    have n3:=e4.1;(try simp only[aH,aN] at n3)
    have fo:∀ c∈f3,h.n≤c:=fun c hc=>by have:=(o3.2 c hc).1;(try simp only[aH,aN] at this);omega
    have fo2:∀ c∈f3,c ∉ ({F with f3:=p0,f4:=p1,f5:=p2}:WF).a:=fun c hc hF=>by have:=(o3.2 c hc).1;have:=s3.lt c hF;omega
    (repeat' first|refine vsx ?_|refine ao4 ?_|fail)
    refine EK.st_ (ez.ext aD) q3.cell (by rfl) aX ?_
    intro h4 ez k4 n4
    have nb1:b1 ∉ f3:=fun hm=>by have:=fo _ hm;omega
    obtain⟨x1,F1,e1,s1,m1⟩:=uj h4 {y with l:=lN y.l t.s x.next (fA x.w ⟨x.next,t.s.trace,iK x.w.now x.c.wait⟩).now} va f3 ez (aL k4 q3 (jh nb1)) ((dD k4 ⟨o3,q3.lt⟩ (jh nb1)).1.mono (by have:=w.nb;simp only[aH,aN];omega) fun _ _=>rfl) (fun c hc=>.inr ⟨by have:=fo c hc;omega,fo2 c hc,fo c hc⟩)
    (repeat' first|(with_reducible refine eu ?_)|refine vsx ?_|(with_reducible refine aW ?_)|((with_reducible refine aA kI ?_);(refine aJ (sJ (s:=t.s) (F:=dU) (by omega) ah) ?_))|fail)
    refine s1.iR {x1 with used:=wr (x.used+dW t.s)} (fun x2 e2 s2=>?_) iq (by rw[e1,e3];rfl)
    have e4:x2=jQ x t:=by rw[e2,e1,e3,Xt,XL hy hf]
    have ht2:x2.tasks[k]? =some t:=by rw[e2,e1,e3];exact ht
    have hd2:x2.aF[t.h.toNat]? =some d:=by rw[e2,e1,e3];exact hd
    have h12:1≤(x2.st.length:Int):=by rw[e2,e1,e3];simpa using h1
    refine aK (Aj s2.w ht2 hd2 h0 h12) ?_
    rintro _ h9 ⟨rfl,W⟩
    obtain⟨V9,F9,s9,-⟩:=s2.call W
    (repeat' first|refine vsw ?_|fail)
    rw[e4] at s9
    exact⟨rfl,_,rfl,rfl,s9.done⟩
end Go.Proofs.YtkdjapahgmflbaaGreat
