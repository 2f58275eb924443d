import Derived.Test.YtkdjapahgmflbaaGreatDW109
import Derived.Test.YtkdjapahgmflbaaGreatDW89
set_option linter.unusedSimpArgs false
set_option linter.unusedVariables false
set_option maxHeartbeats 4000000
set_option maxRecDepth 20000
namespace Go.Proofs.YtkdjapahgmflbaaGreat
open Go Go.Ab
attribute[local irreducible] cZ
section
def Uw (x0 x1:AV):Prog:=Lf 29 x0 fun a=>Ix 12 a x1 fun a=>Lf 30 x0 fun b=>Lf 11 a fun c=>Ix 20 b c fun b=>Lf 14 x0 fun c=>Lf 8 a fun d=>.op (.alloc [.int .i64 0,.int .i64 0,.int .i64 0,.aC]) fun e=>Cl Dz [c,d] fun c=>.chk (.alloc [.int .i64 0,.int .i64 0,.int .i64 0,.aC]) e (.op (.ext c 0) fun d=>.op (.ext c 1) fun c=>.op (.st 4 e d) fun _=>Gf c true 1 e fun d=>.gop c true (.mv a) fun f=>.gop c true (.bg f) fun f=>Gf c true 9 f fun f=>.gop c true (.bin 0 .eql d f) fun d=>Pk c d (.bool false) fun c=>.scope (.ite c (.op (.bg x0) fun c=>.op (.fad 16 c) fun c=>Ld 4 c fun c=>.op (.bg x0) fun d=>.op (.fad 22 d) fun d=>Lg 0 d fun d=>Cl Ap [c,d] fun c=>.op (.bg x0) fun d=>.op (.fad 16 d) fun d=>.op (.st 4 d c) fun _=>.op (.bg x0) fun c=>.op (.fad 0 c) fun c=>.op (.fad 7 c) fun c=>Ld 5 c fun c=>Lg 3 e fun d=>.op (.bg x0) fun f=>.op (.fad 16 f) fun f=>Lg 2 f fun f=>Cl Ay [c,d,f] fun c=>.op (.ext c 0) fun d=>.op (.ext c 1) fun c=>Sf 11 b d fun _=>Sf 13 b c fun _=>Lg 3 e fun c=>Ln 0 c fun c=>Sf 14 b c fun _=>.op (.bg x0) fun c=>.op (.fad 16 c) fun c=>Ld 4 c fun c=>Lf 13 b fun d=>Cl Aw [c,d] fun c=>.op (.ext c 0) fun d=>.op (.ext c 1) fun _=>.op (.bg x0) fun c=>.op (.fad 16 c) fun c=>.op (.st 4 c d) fun _=>Ld 4 e fun c=>Lf 11 b fun d=>Cl FN [x0,c,d] fun c=>Sf 15 b c fun _=>Lf 11 b fun b=>.scope (.ite b (Lg 3 e fun b=>Ln 0 b fun c=>.loop [.int .i64 0] (fun d=>Bn .lss (g d 0) c fun c=>.ite c (Ix 6 b (g d 0) fun b=>Ld 6 b fun b=>.op (.alloc iZ) fun c=>.op (.st 6 c b) fun _=>.op (.bg a) fun b=>.op (.fad 10 b) fun b=>.op (.ld1 b) fun e=>.op (.bg a) fun f=>.op (.fad 9 f) fun f=>.op (.ld1 f) fun i=>Ld 6 c fun c=>Cl kY [c] fun c=>.chk (.ld1 b) e (.chk (.ld1 f) i (.op (.build iO [(0,1,i),(1,6,c)]) fun b=>.op (.aU 7 1 iO [(0,7,b)]) fun b=>.op (.app 7 72 e b) fun b=>Sf 10 a b fun _=>Bn .add (g d 0) (.int .i64 1) fun a=>.leaf 0 [a]))) (.leaf 2 [g d 0])) fun a d=>aB a 1 (.leaf 1 d) (aB a 2 (.leaf 0 [b,c,g d 0]) .bad)) (.leaf 0 [.tup [],.tup [],.tup []])) (fun a=>.leaf 0 [g a 0,g a 1,g a 2]) fun a b=>aB a 1 (.leaf 1 b) .bad) (Sf 12 b (.bool true) fun _=>.leaf 0 [.tup [],.tup [],.tup []])) (fun _=>Lf 12 x0 fun c=>.op (.bg x0) fun d=>.op (.fad 22 d) fun d=>Lg 0 d fun d=>Sf 18 b c fun _=>Sf 16 b d fun _=>Cl wW [x0,x1] fun _=>.op (.bg x0) fun b=>.op (.fad 15 b) fun b=>.op (.st 1 b (.int .i64 (-1))) fun _=>Sf 1 a (.int .i64 3) fun _=>Lf 10 a fun a=>Ln 0 a fun a=>Bn .eql a (.int .i64 0) fun a=>.scope (.ite a (Cl Fq [x0,x1] fun _=>.leaf 0 []) (.leaf 0 [])) (fun _=>.fin []) fun a b=>aB a 1 (.leaf 1 b) .bad) fun a b=>aB a 1 (.leaf 1 b) .bad)
theorem aix (x0 x1:AV):CC Tryz.prog K3 [x0,x1] (Uw x0 x1):=cc Tryz.func124 [0,1,4,5,118,119,120] (fun r=>if r=1 then[(0,[]),(1,[]),(2,[]),(3,[]),(4,[]),(5,[]),(6,[]),(7,[]),(8,[]),(9,[])] else if r=2 then[(0,[]),(1,[]),(2,[]),(3,[]),(4,[]),(5,[]),(6,[]),(7,[]),(12,[]),(8,[12]),(9,[]),(10,[]),(11,[]),(13,[]),(14,[])] else if r=3 then[(0,[]),(1,[]),(2,[]),(3,[]),(4,[]),(5,[]),(6,[]),(7,[]),(8,[]),(9,[])] else if r=4 then[(0,[]),(1,[]),(2,[]),(3,[]),(4,[]),(5,[]),(6,[]),(7,[]),(8,[]),(9,[]),(10,[]),(11,[]),(12,[]),(13,[])] else if r=5 then[(0,[]),(1,[]),(2,[]),(3,[]),(4,[]),(5,[]),(6,[]),(7,[]),(8,[]),(9,[]),(10,[]),(11,[]),(12,[]),(13,[]),(14,[]),(15,[]),(16,[]),(17,[]),(18,[]),(19,[]),(20,[]),(21,[]),(22,[]),(23,[])] else if r=7 then[(0,[]),(1,[]),(2,[]),(3,[]),(4,[]),(5,[]),(6,[]),(7,[]),(8,[]),(9,[]),(10,[]),(11,[]),(12,[]),(13,[]),(14,[]),(15,[])] else if r=8 then[(0,[]),(1,[]),(2,[]),(3,[]),(4,[]),(5,[]),(6,[]),(7,[]),(8,[]),(9,[]),(10,[])] else if r=13 then[(0,[]),(1,[]),(2,[]),(3,[]),(4,[]),(5,[]),(6,[]),(7,[]),(8,[]),(9,[]),(10,[4,8]),(11,[]),(12,[]),(13,[]),(14,[]),(15,[]),(16,[])] else if r=16 then[(0,[]),(1,[]),(2,[]),(3,[]),(4,[]),(5,[]),(6,[]),(7,[]),(8,[]),(9,[]),(10,[]),(11,[]),(12,[]),(13,[]),(14,[]),(15,[]),(16,[])] else[])
end
theorem ajZ {P:Program} {h:AH} {Q:Nat→List AV→AH→Prop} {K:AV→Prog} {c:Bool} {a1 a2 oo:Nat} {s1 s2:Int} {o1 o2 p0 p1 p2 p3 p4 p5 p6 p7 p8 p9 p10:AV} {z:AV} (b1:Bk h a1 [o1,.int .i64 s1,o2,z] 0) (b2:At h a2 oo [p0,p1,p2,p3,p4,p5,p6,p7,p8,.int .i64 s2,p9,p10]) (hk:(K (.bool (c && decide (s1=s2)))).awp P h Q):(Prog.gop (.bool c) true (.fad 1 (.ptr a1 0)) fun v25=>.gop (.bool c) true (.ld1 v25) fun v26=>.gop (.bool c) true (.mv (.ptr a2 oo)) fun v25=>.gop (.bool c) true (.bg v25) fun v25=>.gop (.bool c) true (.fad 9 v25) fun v27=>.gop (.bool c) true (.ld1 v27) fun v28=>.gop (.bool c) true (.bin 0 .eql v26 v28) fun v29=>.op (.pick (.bool c) v29 (.bool false)) K).awp P h Q:=by
 cases c with
 |false=>
  rw[Bool.false_and] at hk
  (repeat' first|refine vs0 ?_|fail)
  exact hk
 |true=>
  rw[Bool.true_and] at hk
  (repeat' first|refine vs0 ?_|(with_reducible refine aW ?_)|fail)
  refine br (fun e=>?_) (fun e=>?_)
  ·rw[decide_eq_true e] at hk
   (repeat' first|refine vs0 ?_|fail)
   exact hk
  ·rw[decide_eq_false e] at hk
   (repeat' first|refine vs0 ?_|fail)
   exact hk
section
variable{h:AH} {b B:Bucket} {n N:Int} {K ok:Bool} {p:Pol} {l:List Span} {v vl:AV} {F Fl:List Nat}
theorem aeC (hB:B=qI b n):aM Tryz.prog Ap [.agg [.int .i64 b.rate,.int .i64 b.bn,.int .i64 b.tokens,.int .i64 b.at_],.int .i64 n] h (.agg [.int .i64 B.rate,.int .i64 B.bn,.int .i64 B.tokens,.int .i64 B.at_]):=by subst hB;exact agJ
theorem agI (hB:B=oZ b n) (hk:ok=nG b n):aM Tryz.prog Aw [.agg [.int .i64 b.rate,.int .i64 b.bn,.int .i64 b.tokens,.int .i64 b.at_],.int .i64 n] h (.tup [.agg [.int .i64 B.rate,.int .i64 B.bn,.int .i64 B.tokens,.int .i64 B.at_],.bool ok]):=by subst hB;subst hk;exact ah7
theorem agK (hK:K=pq p l n) (hN:N=qK p l n) (r:au h v p.l F) (rl:au h vl l Fl):aM Tryz.prog Ay [.agg [.int .i64 p.kind,.int .i64 p.n,.str p.key,.str p.text,v],vl,.int .i64 n] h (.tup [.bool K,.int .i64 N]):=by subst hK;subst hN;exact aia r rl
end
def ltI (x:Wld) (k:Nat) (t:Task) (hand:List Itm):Wld:={x with
 st:=mG k x.st,bS:=-1
 aF:=if hand.length=0 then upd x.aF t.h.toNat (fun d=>{d with res:=x.time}) else x.aF
 tasks:=if hand.length=0 then x.tasks.set k kN else x.tasks.set k {t with pc:=3,hand:=hand}}
noncomputable def uD (x:Wld) (k:Nat) (t:Task):Wld:=
 if bp (vY x t)=true then
  ltI {mQ x (cO x.st t.trace) (nV x t) with
   b:=oZ (zx x) (uz x t)
   aF:=upd x.aF t.h.toNat fun d=>{d with keep:=nV x t,took:=uz x t,n:=(cO x.st t.trace).spans.length,forgot:=iX x (cO x.st t.trace) (nV x t),lin:=x.time,now:=x.w.now}} k t (lS x t)
 else ltI {x with aF:=upd x.aF t.h.toNat fun d=>{d with void:=true,lin:=x.time,now:=x.w.now}} k t []
def ZB (n:Nat) (h:AH) (b k:Nat) (F:WF) (x:Wld) (t:Task) (v9 v10:AV) (hd:Nat) (h2:AH):Prop:=
 ∃ (hand:List Itm) (x1:Wld) (V1:WV) (F1:WF) (Y:Wld) (d1:bI),WS n h.n h b F h2 x1 V1 F1∧V1.v9=v9∧V1.v10=v10∧x1={Y with aF:=x.aF.set hd d1,tasks:=x.tasks.set k {t with hand:=hand}}∧uD x k t=ltI Y k t hand∧Y.aF=x.aF.set hd {d1 with lin:=x.time,now:=x.w.now}∧Y.time=x.time∧Y.w.now=x.w.now∧Y.tasks=x.tasks∧Y.st.length=x.st.length
theorem ah6 {h:AH} {n b k:Nat} {x:Wld} {V:WV} {F:WF} {t:Task} {d:bI} (w:PW n h b x V F) (ht:x.tasks[k]? =some t) (hd:x.aF[t.h.toNat]? =some d) (h0:0≤t.h) (hh:t.hand=[]) (h1:1≤(x.st.length:Int)) (hs:Sz.sz x≤33554432) (hc:x.cache.length≤1048576):bN Tryz.prog K3 [.ptr b 0,.int .i64 (k:Int)] h fun v h'=>v= .tup []∧kX n h.n h b F (uD x k t) h':=by
 obtain⟨v0,v1,v2,v3,v4,v5,v6,v7,v8,v9,v10⟩:=V
 have hk:k < x.tasks.length:=(List.getElem?_eq_some_iff.1 ht).1
 have hdl:t.h.toNat < x.aF.length:=(List.getElem?_eq_some_iff.1 hd).1
 have hst:=tY hs
 have s:=w.ws
 obtain⟨b9,o9,e9⟩:=w.r9.sl ht;have e9:v9= .sl b9 o9 x.tasks.length:=e9;subst e9;have l9:b9 < _:=dZ w.r9;obtain⟨b10,o10,e10⟩:=w.r10.sl hd;have e10:v10= .sl b10 o10 x.aF.length:=e10;subst e10;have l10:b10 < _:=dZ w.r10
 have bk:=bkE w
 have hb:=bk.1
 have NY:b10 < h.n:=l10
 have hb9:b9 < h.n:=l9
 have r0:au h v0 x.c.rule.l F.f0:=w.r0
 have nb0:b ∉ F.f0:=w.n0
 have r1:au h v1 x.st F.f1:=w.r1
 obtain⟨dI,dJ,dU,j6,kG,ek,j5,j4,kH,iT,kF,kD,kE,jT,jk,gW⟩:=s.dL (bb:=b9) (off:=o9) ht rfl;have ek:EK Task _ _ _ b9 (o9+k * 12) [.int .i64 t.op,.int .i64 t.pc,.int .i64 t.s.trace,.int .i64 t.s.id,.int .i64 t.s.start,.int .i64 t.s.fin,.bool t.s.err,dI,.int .i64 t.trace,.int .i64 t.stamp,dJ,.int .i64 t.h] _ _ _ _:=ek
 have at9:=ek.at_
 have nbx:∀ c,h.n≤c→c ∉ b::F.a:=fun c hc' hm=>by
  rcases List.mem_cons.1 hm with q|q
  ·omega
  ·have:=s.lt c q;omega
 have h10:∀ c,h.n≤c→c ∉ [b10]:=fun c h1 h2=>by have:=List.mem_singleton.1 h2;omega
 have ht0:({t with hand:=[]}:Task)=t:=by rw[←hh]
 have hset:x.tasks.set k t=x.tasks:=by
  obtain⟨hk',e⟩:=List.getElem?_eq_some_iff.1 ht
  conv=>lhs;rw[←e]
  exact List.set_getElem_self hk'
 refine aix _ _ ?_
 unfold Uw
 (repeat' first|refine vsx ?_|refine ao4 ?_|fail)
 refine aK (OW (l:=x.st) (id:=t.trace) (by omega) ah) ?_
 rintro _ h2 ⟨e2,_,G2,rfl,⟨z2,rfl,zq2⟩,oG2⟩
 have n2:=e2.1;(try simp only[aH,aN] at n2)
 (repeat' first|refine vs0 ?_|((with_reducible refine fU ?_);refine fT aV ?_)|fail)
 refine ajZ aV iY ?_
 refine Xa (fun vs h'=>ZB n h b k F x t (.sl b9 o9 x.tasks.length) (.sl b10 o10 x.aF.length) t.h.toNat h') ?_ ?_
 ·by_cases hit:eG x.st t.trace=true∧(cO x.st t.trace).stamp=t.stamp
  ·obtain⟨hf,hsm⟩:=hit
   obtain⟨o,ho⟩:∃ o,fq x.st t.trace=some o:=by unfold eG at hf;exact Option.isSome_iff_exists.1 hf
   have hoo:=(mV ho).1
   have hsh:vY x t:=⟨hf,hsm⟩
   rw[hf,decide_eq_true hsm,Bool.and_self]
   rw[hoo] at hsm zq2
   rw[hoo]
   have hso:Sz.sz o≤33554432:=by
    obtain⟨yo,jo,hyo,hjo,-,-⟩:=xV ho
    have a1:=bC (List.mem_of_getElem? hyo);have a2:=bC (List.mem_of_getElem? hjo)
    have e1:Sz.sz yo=yo.l.length+szs yo.l:=rfl
    omega
   have hsl:Sz.sz o=o.spans.length+szs o.spans:=rfl
   obtain⟨B,hB⟩:∃ B,B=qI x.b x.w.now:=⟨_,rfl⟩
   obtain⟨K,hK⟩:∃ K,K=pq x.c.rule o.spans B.tokens:=⟨_,rfl⟩
   obtain⟨N,hN⟩:∃ N,N=qK x.c.rule o.spans B.tokens:=⟨_,rfl⟩
   obtain⟨S,hS⟩:∃ S,S=oZ B N:=⟨_,rfl⟩
   obtain⟨ok,hok⟩:∃ ok,ok=nG B N:=⟨_,rfl⟩
   (repeat' first|refine vsx ?_|(with_reducible refine aW ?_)|((with_reducible refine aA Ap ?_);(refine aJ (aeC hB) ?_))|((with_reducible refine aA Ay ?_);(refine aJ (agK (p:=x.c.rule) hK hN ah ah) ?_))|fail)
   refine s.iR {x with b:=B} (fun x1 e1 s1=>?_) iq (by rfl)
   have hd1:x1.aF[t.h.toNat]? =some d:=by rw[e1];exact hd
   obtain⟨jm,rC,rR,ed,rA,rU,rP,pQ,rO,rQ,rV,pG,je⟩:=s1.mU (bb:=b10) (off:=o10) hd1 rfl;have ed:EK bI _ _ _ b10 (o10+t.h.toNat * 20) [.int .i64 d.op,.int .i64 d.task,.int .i64 d.s.trace,.int .i64 d.s.id,.int .i64 d.s.start,.int .i64 d.s.fin,.bool d.s.err,jm,.int .i64 d.trace,.int .i64 d.stamp,.int .i64 d.code,.bool d.keep,.bool d.void,.int .i64 d.took,.int .i64 d.n,.int .i64 d.forgot,.int .i64 d.now,.int .i64 d.inv,.int .i64 d.lin,.int .i64 d.res] _ _ _ _:=ed
   (repeat' first|((with_reducible refine bW ?_);refine EK.st_ (ed.ext aD) (by rfl) (by rfl) aX ?_;intro h_ ed k_ n_)|refine vsx ?_|(with_reducible refine aW ?_)|fail)
   have Og:=ed.at_
   have ao1:b10≠b:=pQ
   obtain⟨x2,F2,ex2,s2,m2⟩:=je _ {d with keep:=K,took:=N,n:=o.spans.length} rfl ed
   (repeat' first|refine vsx ?_|(with_reducible refine aW ?_)|((with_reducible refine aA Aw ?_);(refine aJ (agI hS hok) ?_))|fail)
   refine s2.iR {x2 with b:=S} (fun x3 e3 s3=>?_) iq (by rw[ex2,e1];rfl)
   have hbG:b ∉ G2:=fun hm=>by have:=(oG2.2 b hm).1;(try simp only[aH,aN] at this);omega
   have an9:∀ c∈G2,c ∉ [b10]:=fun c hc=>h10 c (by have:=(oG2.2 c hc).1;(try simp only[aH,aN] at this);omega)
   have zq3:au h_ z2 o.spans G2:=aL ed.k (ah:au _ z2 o.spans G2) an9
   have bx3:Bk h_ h.n [.int .i64 o.id,.int .i64 o.stamp,.int .i64 o.first,z2] 0:=bF ed.k aV (h10 _ (Nat.le_refl _))
   refine aK (Uf (o:=o) (keep:=K) s3.w (ah:au _ z2 o.spans G2) hbG (by omega) (by rw[e3,ex2,e1];exact(by omega:x.st.length+szs x.st≤67108864)) (by rw[e3,ex2,e1];exact hc)) ?_
   rintro _ h5 ⟨rfl,W⟩
   obtain⟨V5,F5,s5,e9v,jq,kk5,n5,m5⟩:=ni s3 W
   have mF2:∀ c,h.n≤c→c ∉ F2.a:=fun c hc' hm=>by have:=s.lt c (m2 c hm);omega
   have Ze:∀ c,h.n≤c→c ∉ b::F2.a:=fun c hc' hm=>by
    rcases List.mem_cons.1 hm with q|q
    ·omega
    ·exact mF2 c hc' q
   have bx5:Bk h5 h.n [.int .i64 o.id,.int .i64 o.stamp,.int .i64 o.first,z2] 0:=bF kk5 aV (Ze _ (Nat.le_refl _))
   have Cw:∀ c∈G2,h.n+1≤c:=fun c hc=>by have:=(oG2.2 c hc).1;(try simp only[aH,aN] at this);omega
   have zq5:au h5 z2 o.spans G2:=aL kk5 (ah:au _ z2 o.spans G2) fun c hc'=>Ze c (by have:=Cw c hc';omega)
   have nh:h2.n≤h_.n:=by have:=ed.k.1;simp only[aH,aN] at this;omega
   have nQ:∀ c,h.n≤c→c < h2.n→c ∉ F5.a:=fun c hc1 hc2 hm=>by
    rcases m5 c hm with p|p
    ·exact mF2 c hc1 p
    ·simp only[aH,aN] at p;omega
   have n5':h2.n≤h5.n:=by simp only[aH,aN] at n5;omega
   obtain⟨x5,hx5,s5⟩:=s5.gen
   obtain⟨v0,v1,v2,v3,v4,v5,v6,v7,v8,v9,v10⟩:=V5
   have e9v:v9= .sl b9 o9 x.tasks.length:=e9v
   have jq:v10= .sl b10 o10 x.aF.length:=jq
   subst e9v jq
   have Zl:x5.aF=x.aF.set t.h.toNat {d with keep:=K,took:=N,n:=o.spans.length}:=by rw[hx5,e3,ex2,e1];rfl
   obtain⟨d5,NR⟩:∃ d5,d5=({d with keep:=K,took:=N,n:=o.spans.length}:bI):=⟨_,rfl⟩
   have hd5:x5.aF[t.h.toNat]? =some d5:=by rw[Zl,NR];exact List.getElem?_set_self hdl
   have hK5:d5.keep=K:=by rw[NR]
   obtain⟨anZ,aoD,aoY,ee,aoB,aoZ,aoV,aoX,aoU,aoW,ao0,aoC,anY⟩:=s5.mU (bb:=b10) (off:=o10) hd5 rfl;have ee:EK bI _ _ _ b10 (o10+t.h.toNat * 20) [.int .i64 d5.op,.int .i64 d5.task,.int .i64 d5.s.trace,.int .i64 d5.s.id,.int .i64 d5.s.start,.int .i64 d5.s.fin,.bool d5.s.err,anZ,.int .i64 d5.trace,.int .i64 d5.stamp,.int .i64 d5.code,.bool d5.keep,.bool d5.void,.int .i64 d5.took,.int .i64 d5.n,.int .i64 d5.forgot,.int .i64 d5.now,.int .i64 d5.inv,.int .i64 d5.lin,.int .i64 d5.res] _ _ _ _:=ee
   clear bk at9 r0 r1 W kk5 Og ed
   (repeat' first|((with_reducible refine bW ?_);refine EK.st_ (ee.ext aD) (by rfl) (by rfl) aX ?_;intro h_ ee k_ n_)|refine vsx ?_|(with_reducible refine aW ?_)|fail)
   have Og:=ee.at_
   rw[hK5] at Og
   obtain⟨x6,F6,ex6,s6,m6⟩:=anY _ {d5 with forgot:=iX x3 o K} rfl ee
   have nQ6:∀ c,h.n≤c→c < h2.n→c ∉ F6.a:=fun c a1 a2 hm=>nQ c a1 a2 (m6 c hm)
   have bx6:Bk h_ h.n [.int .i64 o.id,.int .i64 o.stamp,.int .i64 o.first,z2] 0:=bF ee.k bx5 (h10 _ (Nat.le_refl _))
   have zq6:au h_ z2 o.spans G2:=aL ee.k zq5 fun c hc=>h10 c (by have:=Cw c hc;omega)
   have n6:h2.n≤h_.n:=by have:=ee.k.1;omega
   have lG2:∀ c∈G2,c < h2.n:=fun c hc=>zq2.lt c hc
   have hB':zx x=B:=hB.symm
   have hK':nV x t=K:=by unfold nV;rw[hoo,hB',hK]
   have hN':uz x t=N:=by unfold uz;rw[hoo,hB',hN]
   have hfg:iX x3 o K=iX x o K:=by rw[e3,ex2,e1];rfl
   have fin:∀ (h7:AH) (x7:Wld) (F7:WF),x7={x6 with tasks:=x.tasks.set k {t with hand:=lS x t}}→WS n h.n h b F h7 x7 ⟨v0,v1,v2,v3,v4,v5,v6,v7,v8,AV.sl b9 o9 x.tasks.length,AV.sl b10 o10 x.aF.length⟩ F7→ZB n h b k F x t (.sl b9 o9 x.tasks.length) (.sl b10 o10 x.aF.length) t.h.toNat h7:=fun h7 x7 F7 e7 s7=>by
    refine⟨lS x t,x7,_,F7,{mQ x o K with b:=S,aF:=x.aF.set t.h.toNat {d with keep:=K,took:=N,n:=o.spans.length,forgot:=iX x o K,lin:=x.time,now:=x.w.now}},{d with keep:=K,took:=N,n:=o.spans.length,forgot:=iX x o K},s7,rfl,rfl,?_,?_,rfl,rfl,rfl,rfl,?_⟩
    ·rw[e7,ex6,Zl,hx5,e3,ex2,e1,NR,List.set_set,←hfg,e3,ex2,e1];rfl
    ·unfold uD;rw[fI hsh,if_pos rfl,hK',hN',hoo,hB',←hS,iQ hd]
    ·show((gN x.st o.id).length:Nat)=x.st.length
     exact yD
   have h6t:x6.tasks=x.tasks:=by rw[ex6,hx5,e3,ex2,e1];rfl
   cases K with
   |false=>
    have hH:lS x t=[]:=by unfold lS;rw[hK'];rfl
    (repeat' first|refine vsx ?_|fail)
    refine⟨rfl,fin _ _ _ ?_ s6⟩
    rw[hH,ht0,hset,←h6t]
   |true=>
    have hH:lS x t=o.spans.map fun s=>(⟨t.stamp,s⟩:Itm):=by unfold lS;rw[hK',if_pos rfl,hoo]
    (repeat' first|refine vsx ?_|fail)
    refine aT o.spans.length (fun i vs h7=>vs=[.int .i64 (i:Int)]∧i≤o.spans.length∧∃ x7 F7,x7={x6 with tasks:=x.tasks.set k {t with hand:=(o.spans.take i).map fun s=>(⟨t.stamp,s⟩:Itm)}}∧WS n h.n h b F h7 x7 ⟨v0,v1,v2,v3,v4,v5,v6,v7,v8,AV.sl b9 o9 x.tasks.length,AV.sl b10 o10 x.aF.length⟩ F7∧Bk h7 h.n [.int .i64 o.id,.int .i64 o.stamp,.int .i64 o.first,z2] 0∧au h7 z2 o.spans G2∧h2.n≤h7.n∧∀ c,h.n≤c→c < h2.n→c ∉ F7.a) ⟨rfl,Nat.zero_le _,x6,F6,by rw[List.take_zero,List.map_nil,ht0,hset,←h6t],s6,bx6,zq6,n6,nQ6⟩ ?_
    rintro i vs h7 _ ⟨rfl,hi,x7,F7,ex7,s7,bx7,zq7,nh7,nQ7⟩
    simp only[g0]
    have w7:=s7.w
    by_cases hlt:(i:Int) < o.spans.length
    ·obtain⟨y,hy,-,hty⟩:=aP (show i < o.spans.length by omega)
     have hm:=bC (List.mem_of_getElem? hy)
     obtain⟨t7,et7⟩:∃ t7,t7=({t with hand:=(o.spans.take i).map fun s=>(⟨t.stamp,s⟩:Itm)}:Task):=⟨_,rfl⟩
     have ht7:x7.tasks[k]? =some t7:=by rw[ex7,et7];exact List.getElem?_set_self hk
     obtain⟨b',o',E,Fi,R,ev9,re,oFi,el,hdj,mR,mF⟩:=w7.r9.elt w7.o9 ht7
     obtain⟨u0,u1,H0,H1,rfl,rfl,q0,q1⟩:=re
     have ev9:AV.sl b9 o9 x.tasks.length= .sl b' o' x7.tasks.length:=ev9
     injection ev9 with ea eb _
     subst ea eb
     have el:Elt Task n h7 b9 (o9+k * 12) [.int .i64 t.op,.int .i64 t.pc,.int .i64 t.s.trace,.int .i64 t.s.id,.int .i64 t.s.start,.int .i64 t.s.fin,.bool t.s.err,u0,.int .i64 t.trace,.int .i64 t.stamp,u1,.int .i64 t.h] (AV.sl b9 o9 x.tasks.length) x7.tasks k R:=by rw[et7] at el;exact el
     have q1:au h7 u1 ((o.spans.take i).map fun s=>(⟨t.stamp,s⟩:Itm)) H1:=by rw[et7] at q1;exact q1
     have q0:au h7 u0 t.s.attrs H0:=by rw[et7] at q0;exact q0
     have at7:At h7 b9 (o9+k * 12) [.int .i64 t.op,.int .i64 t.pc,.int .i64 t.s.trace,.int .i64 t.s.id,.int .i64 t.s.start,.int .i64 t.s.fin,.bool t.s.err,u0,.int .i64 t.trace,.int .i64 t.stamp,u1,.int .i64 t.h]:=el.at_
     (repeat' first|refine vsx ?_|(with_reducible refine aW ?_)|(refine br ?_ ?_<;>first|exact bo|intro _)|((with_reducible refine aY ?_);((refine ix ?_);rintro _ _ _ _ _ ⟨_,rfl,_⟩ _))|fail)
     all_goals try(exfalso;omega)
     refine aK (rY y (by omega) _ _ _ ⟨_,rfl,ah⟩) ?_
     rintro _ h8 ⟨e8,_,G8,rfl,⟨w8,rfl,q8⟩,o8⟩
     have n8:=e8.1;(try simp only[aH,aN] at n8)
     have E78:Ext h7 h8:=aD
     (repeat' first|refine vsx ?_|fail)
     have lt7:=s7.lt
     have lt9:∀ c∈F7.f9,c < h7.n:=fun c hc=>lt7 c (F7.in9 c hc)
     have m0:∀ c∈H0,c∈F7.f9:=fun c hc=>mF c (List.mem_append_left _ hc)
     have m1:∀ c∈H1,c∈F7.f9:=fun c hc=>mF c (List.mem_append_right _ hc)
     have g8:∀ c∈G8,h7.n≤c:=fun c hc=>by have:=(o8.2 c hc).1;(try simp only[aH,aN] at this);omega
     have nd:=(List.nodup_append.1 oFi.1.1).2.2
     have hnh:n≤h7.n:=by have:=w7.nb;have:=w7.bk.1;omega
     have mb9:=mR b9 el.mem
     have nhh:=s7.hm
     refine iJ (n:=n) (jM E78 q1) (⟨w8,rfl,q8⟩:Cel.rep h8 (⟨t.stamp,y⟩:Itm) _ G8) (fK (iN E78 ⟨bD oFi.1,q1.lt⟩).1 (o8.mono (by simp only[aH,aN];omega) fun _ _=>rfl) (Nat.le_refl _) fun c hc hm=>by have:=g8 c hm;have:=lt9 c (m1 c hc);omega) (by omega) rfl (by rw[List.length_map,List.length_take];omega) (by rw[List.length_map,List.length_take];omega) ?_
     intro v' h9 f _ k9 q9 of_ m9
     have n9:=k9.1
     have m9':∀ c∈f,c∈H1∨h7.n≤c:=fun c hc=>by
      rcases m9 c hc with p|p|p
      ·exact .inl p
      ·exact .inr (g8 c p)
      ·exact .inr (by omega)
     have el9:=(el.ext E78).kp k9 fun c hc hm=>hdj c (List.mem_append_right _ hm) hc
     have ao2:At h9 b9 (o9+k * 12) [.int .i64 t.op,.int .i64 t.pc,.int .i64 t.s.trace,.int .i64 t.s.id,.int .i64 t.s.start,.int .i64 t.s.fin,.bool t.s.err,u0,.int .i64 t.trace,.int .i64 t.stamp,u1,.int .i64 t.h]:=el9.at_
     clear at7
     (repeat' first|refine vsx ?_|(with_reducible refine aW ?_)|fail)
     refine el9.st_ q9.cell rfl aX ?_
     intro anT Oc k10 n10
     have Oc:Elt Task n anT b9 (o9+k * 12) (({t with hand:=((o.spans.take i).map fun s=>(⟨t.stamp,s⟩:Itm))++[⟨t.stamp,y⟩]}:Task).cs u0 v') (AV.sl b9 o9 x.tasks.length) x7.tasks k R:=Oc
     have fb9:∀ c∈f,c ∉ [b9]:=fun c hc hm=>by
      rw[List.mem_singleton.1 hm] at hc
      rcases m9' b9 hc with p|p
      ·exact hdj b9 (List.mem_append_right _ p) el.mem
      ·have:=lt9 b9 mb9;omega
     have Zo:∀ c∈H0,c ∉ [b9]:=fun c hc hm=>hdj c (List.mem_append_left _ hc) (by rw[List.mem_singleton.1 hm];exact el.mem)
     have h01:∀ c∈H0,c ∉ H1:=fun c hc hm=>nd c hc c hm rfl
     obtain⟨F8,W8,m8,K8⟩:=w7.IX Oc (G:=H0++f) ⟨u0,v',H0,f,rfl,rfl,aL k10 (aL k9 (jM E78 q0) h01) Zo,aL k10 q9 fb9⟩ (fK (dD k10 (dD k9 (iN E78 ⟨dA oFi.1,q0.lt⟩) h01) Zo).1 (dD k10 ⟨of_,q9.lt⟩ fb9).1 (Nat.le_refl _) fun c hc hm=>by
       rcases m9' c hm with p|p
       ·exact h01 c hc p
       ·have:=lt9 c (m0 c hc);omega) (fun c hc hR=>by
       rcases List.mem_append.1 hc with p|p
       ·exact hdj c (List.mem_append_left _ p) hR
       ·rcases m9' c p with p|p
        ·exact hdj c (List.mem_append_right _ p) hR
        ·have:=lt9 c (mR c hR);omega) mR (fun c hc=>by
       rcases List.mem_append.1 hc with p|p
       ·exact⟨fun e=>w7.n9 (e▸m0 c p),.inl (m0 c p)⟩
       ·rcases m9' c p with p|p
        ·exact⟨fun e=>w7.n9 (e▸m1 c p),.inl (m1 c p)⟩
        ·exact⟨by omega,.inr fun hm=>by have:=lt7 c hm;omega⟩) (((Kp.iA E78).trans (k9.mono m1)).trans (k10.mono fun c hc=>by rw[List.mem_singleton.1 hc];exact mb9))
     have m8':∀ c∈F8.a,c∈F7.a∨h7.n≤c:=fun c hc=>by
      rcases m8 c hc with p|p
      ·exact .inl p
      ·rcases List.mem_append.1 p with p|p
       ·exact .inl (F7.in9 c (m0 c p))
       ·rcases m9' c p with p|p
        ·exact .inl (F7.in9 c (m1 c p))
        ·exact .inr p
     have s8:=s7.to W8 K8 fun c hc=>(m8' c hc).imp id fun p=>by omega
     have nb7:∀ c,h.n≤c→c < h2.n→c ∉ b::F7.a:=fun c a1 a2 hm=>by
      rcases List.mem_cons.1 hm with e|e
      ·omega
      ·exact nQ7 c a1 a2 e
     (repeat' first|refine vsx ?_|fail)
     refine⟨by omega,rfl,by omega,_,F8,?_,s8,bF K8 bx7 (nb7 _ (Nat.le_refl _) (by omega)),aL K8 zq7 fun c hc=>nb7 c (by have:=Cw c hc;omega) (lG2 c hc),by omega,fun c a1 a2 hm=>?_⟩
     ·rw[ex7,hty,List.map_append,List.set_set];rfl
     ·rcases m8' c hm with p|p
      ·exact nQ7 c a1 a2 p
      ·omega
    ·have hi':i=o.spans.length:=by omega
     subst hi'
     rw[List.take_length] at ex7
     (repeat' first|refine vsx ?_|(refine br ?_ ?_<;>first|exact bo|intro _)|fail)
     all_goals try(exfalso;omega)
     exact⟨rfl,fin _ _ _ (by rw[ex7,hH]) s7⟩
  ·have hc2:(eG x.st t.trace && decide ((cO x.st t.trace).stamp=t.stamp))=false:=by
    rw[Bool.eq_false_iff];intro p;rw[Bool.and_eq_true,decide_eq_true_iff] at p;exact hit p
   rw[hc2]
   obtain⟨jm,rC,rR,ed,rA,rU,rP,pQ,rO,rQ,rV,pG,je⟩:=s.mU (bb:=b10) (off:=o10) hd rfl;have ed:EK bI _ _ _ b10 (o10+t.h.toNat * 20) [.int .i64 d.op,.int .i64 d.task,.int .i64 d.s.trace,.int .i64 d.s.id,.int .i64 d.s.start,.int .i64 d.s.fin,.bool d.s.err,jm,.int .i64 d.trace,.int .i64 d.stamp,.int .i64 d.code,.bool d.keep,.bool d.void,.int .i64 d.took,.int .i64 d.n,.int .i64 d.forgot,.int .i64 d.now,.int .i64 d.inv,.int .i64 d.lin,.int .i64 d.res] _ _ _ _:=ed
   (repeat' first|((with_reducible refine bW ?_);refine EK.st_ (ed.ext aD) (by rfl) (by rfl) aX ?_;intro h_ ed k_ n_)|refine vsx ?_|(with_reducible refine aW ?_)|fail)
   obtain⟨x6,F6,e6,s6,m6⟩:=je _ {d with void:=true} rfl ed
   refine⟨rfl,[],x6,_,F6,{x with aF:=x.aF.set t.h.toNat {d with void:=true,lin:=x.time,now:=x.w.now}},{d with void:=true},s6,rfl,rfl,?_,?_,rfl,rfl,rfl,rfl,rfl⟩
   ·rw[ht0,hset];exact e6
   ·have hns: ¬ vY x t:=hit
    unfold uD;rw[gu hns,if_neg (by decide),iQ hd]
 ·rintro vs h7 ⟨hand,x1,V1,F1,Y,d1,s1,e9v,jq,ex1,eS,eYd,eYt,eYn,eYk,eYl⟩
  clear bk at9 r0 r1 gW jk
  obtain⟨v0,v1,v2,v3,v4,v5,v6,v7,v8,v9,v10⟩:=V1
  have e9v:v9= .sl b9 o9 x.tasks.length:=e9v
  have jq:v10= .sl b10 o10 x.aF.length:=jq
  subst e9v jq
  have hd1:x1.aF[t.h.toNat]? =some d1:=by rw[ex1];exact List.getElem?_set_self hdl
  have CB:t.h.toNat < x1.aF.length:=(List.getElem?_eq_some_iff.1 hd1).1
  have anQ:x.aF.length=x1.aF.length:=by rw[ex1];simp
  obtain⟨t1,et1⟩:∃ t1,t1=({t with hand:=hand}:Task):=⟨_,rfl⟩
  have ht1:x1.tasks[k]? =some t1:=by rw[ex1,et1];exact List.getElem?_set_self hk
  have hT:x1.time=x.time:=by rw[ex1];exact eYt
  have hW:x1.w.now=x.w.now:=by rw[ex1];exact eYn
  have h11:1≤(x1.st.length:Int):=by rw[ex1];show 1≤(Y.st.length:Int);omega
  have w1:=s1.w
  have bk7:=bkE w1
  obtain⟨jm,rC,rR,ed,rA,rU,rP,pQ,rO,rQ,rV,pG,je⟩:=s1.mU (bb:=b10) (off:=o10) hd1 rfl;have ed:EK bI _ _ _ b10 (o10+t.h.toNat * 20) [.int .i64 d1.op,.int .i64 d1.task,.int .i64 d1.s.trace,.int .i64 d1.s.id,.int .i64 d1.s.start,.int .i64 d1.s.fin,.bool d1.s.err,jm,.int .i64 d1.trace,.int .i64 d1.stamp,.int .i64 d1.code,.bool d1.keep,.bool d1.void,.int .i64 d1.took,.int .i64 d1.n,.int .i64 d1.forgot,.int .i64 d1.now,.int .i64 d1.inv,.int .i64 d1.lin,.int .i64 d1.res] _ _ _ _:=ed
  have hb7:=bk7.1
  (repeat' first|((with_reducible refine bW ?_);refine EK.st_ (ed.ext aD) (by rfl) (by rfl) aX ?_;intro h_ ed k_ n_)|refine vsx ?_|(with_reducible refine aW ?_)|fail)
  obtain⟨x2,F2,e2',s2,m2⟩:=je _ {d1 with lin:=x1.time,now:=x1.w.now} rfl ed
  have h12:1≤(x2.st.length:Int):=by rw[e2'];exact h11
  refine aK (uL s2.w h12) ?_
  rintro _ h8 ⟨rfl,W⟩
  obtain⟨V3,F3,s3,e9v,jq,-,-,-⟩:=ni s2 W
  obtain⟨x3,ex3,s3⟩:=s3.gen
  obtain⟨v0,v1,v2,v3,v4,v5,v6,v7,v8,v9,v10⟩:=V3
  have e9v:v9= .sl b9 o9 x.tasks.length:=e9v
  have jq:v10= .sl b10 o10 x.aF.length:=jq
  subst e9v jq
  have bk8:=bkE s3.w
  have hb8:=bk8.1
  clear bk7 ed
  (repeat' first|refine vsx ?_|(with_reducible refine aW ?_)|fail)
  refine s3.iR {x3 with bS:=-1} (fun x4 e4 s4=>?_) iq (by rfl)
  have ht4:x4.tasks[k]? =some t1:=by rw[e4,ex3,e2'];exact ht1
  obtain⟨bZ,bY,gF,gD,gU,et,gM,gL,gI,fZ,gT,gP,gQ,gV,fF,dH⟩:=s4.dL (bb:=b9) (off:=o9) ht4 rfl;have et:EK Task _ _ _ b9 (o9+k * 12) [.int .i64 t1.op,.int .i64 t1.pc,.int .i64 t1.s.trace,.int .i64 t1.s.id,.int .i64 t1.s.start,.int .i64 t1.s.fin,.bool t1.s.err,bZ,.int .i64 t1.trace,.int .i64 t1.stamp,bY,.int .i64 t1.h] _ _ _ _:=et
  (repeat' first|((with_reducible refine bW ?_);refine EK.st_ (et.ext aD) (by rfl) (by rfl) aX ?_;intro h_ et k_ n_)|refine vsx ?_|(with_reducible refine aW ?_)|fail)
  have Zx:=et.at_
  have rh:au h_ bY hand gD:=by
   have:=aL et.k gL fun c hc hm=>(fZ c (List.mem_append_right _ hc)).1 (List.mem_singleton.1 hm)
   rw[et1] at this;exact this
  obtain⟨x5,F5,e5,s5,m5⟩:=dH _ {t1 with pc:=3} rfl rfl et
  have hk4:k < x4.tasks.length:=(List.getElem?_eq_some_iff.1 ht4).1
  obtain⟨t5,et5⟩:∃ t5,t5=({t1 with pc:=3}:Task):=⟨_,rfl⟩
  have ht5:x5.tasks[k]? =some t5:=by rw[e5,et5];exact List.getElem?_set_self hk4
  have hd5:x5.aF[t5.h.toNat]? =some {d1 with lin:=x1.time,now:=x1.w.now}:=by
   rw[e5,e4,ex3,e2',et5,et1];exact List.getElem?_set_self CB
  have h05:0≤t5.h:=by rw[et5,et1];exact h0
  have hdY:Y.aF[t.h.toNat]? =some {d1 with lin:=x.time,now:=x.w.now}:=by rw[eYd];exact List.getElem?_set_self hdl
  by_cases hl:hand.length=0
  ·(repeat' first|refine vsx ?_|(refine br ?_ ?_<;>first|exact bo|intro _)|fail)
   all_goals try(exfalso;omega)
   refine aK (Sq s5.w ht5 hd5 h05) ?_
   rintro _ h9 ⟨rfl,W9⟩
   obtain⟨V9,F9,s9,-⟩:=s5.call W9
   (repeat' first|refine vsw ?_|fail)
   have e:wM x5 k t5=uD x k t:=by
    rw[eS];unfold ltI wM
    rw[if_pos hl,if_pos hl,iQ hdY,iQ hd5,eYd,e5,e4,ex3,e2',et5,et1,ex1]
    simp only[List.set_set,eYt,eYn,eYk]
   rw[e] at s9
   exact⟨rfl,_,rfl,rfl,s9.done⟩
  ·(repeat' first|refine vsx ?_|(refine br ?_ ?_<;>first|exact bo|intro _)|fail)
   all_goals try(exfalso;omega)
   have e:x5=uD x k t:=by
    rw[eS];unfold ltI
    rw[if_neg hl,if_neg hl,eYd,e5,e4,ex3,e2',et1,ex1]
    simp only[List.set_set,eYt,eYn,eYk]
   rw[e] at s5
   exact⟨rfl,_,rfl,rfl,s5.done⟩
end Go.Proofs.YtkdjapahgmflbaaGreat
