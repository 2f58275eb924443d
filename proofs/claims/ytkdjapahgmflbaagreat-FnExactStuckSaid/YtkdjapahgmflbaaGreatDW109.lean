import Derived.Test.YtkdjapahgmflbaaGreatDW108
import Derived.Test.YtkdjapahgmflbaaGreatDW94
import Derived.Test.YtkdjapahgmflbaaGreatDAb57
set_option linter.unusedSimpArgs false
set_option linter.unusedVariables false
set_option maxHeartbeats 4000000
set_option maxRecDepth 20000
namespace Go.Proofs.YtkdjapahgmflbaaGreat
open Go Go.Ab
attribute[local irreducible] cZ
section
def SG (x0 x1:AV):Prog:=Lf 29 x0 fun a=>Ix 12 a x1 fun a=>Ld 12 a fun a=>.op (.alloc gJ) fun b=>.op (.st 12 b a) fun _=>Lf 30 x0 fun a=>Lg 11 b fun c=>Ix 20 a c fun a=>Lf 14 x0 fun c=>Lg 8 b fun d=>.op (.alloc [.int .i64 0,.int .i64 0,.int .i64 0,.aC]) fun e=>Cl zT [c,d] fun c=>.chk (.alloc [.int .i64 0,.int .i64 0,.int .i64 0,.aC]) e (.op (.ext c 0) fun d=>.op (.ext c 1) fun c=>.op (.st 4 e d) fun _=>.op (.aU 7 0 [] []) fun d=>Gf c true 1 e fun f=>Gf c true 9 b fun i=>.gop c true (.bin 0 .eql f i) fun f=>Pk c f (.bool false) fun c=>.scope (.ite c (.op (.bg x0) fun b=>.op (.fad 16 b) fun b=>Ld 4 b fun b=>.op (.bg x0) fun c=>.op (.fad 22 c) fun c=>Lg 0 c fun c=>.op (.alloc [.int .i64 0,.int .i64 0,.int .i64 0,.int .i64 0]) fun f=>Cl Ak [b,c] fun b=>.chk (.alloc [.int .i64 0,.int .i64 0,.int .i64 0,.int .i64 0]) f (.op (.st 4 f b) fun _=>.op (.bg x0) fun b=>.op (.fad 0 b) fun b=>.op (.fad 7 b) fun b=>Ld 5 b fun b=>Lg 3 e fun c=>Lg 2 f fun i=>Cl Av [b,c,i] fun b=>.op (.ext b 0) fun c=>.op (.ext b 1) fun b=>Ld 4 f fun f=>Cl Au [f,b] fun f=>.op (.ext f 0) fun i=>.op (.ext f 1) fun _=>.op (.alloc [.int .i64 0,.int .i64 0,.int .i64 0,.int .i64 0]) fun f=>.op (.st 4 f i) fun _=>Ld 4 f fun f=>.op (.bg x0) fun i=>.op (.fad 16 i) fun i=>.op (.st 4 i f) fun _=>Ld 4 e fun f=>Cl zR [x0,f,c] fun f=>Sf 11 a c fun _=>Sf 13 a b fun _=>Lg 3 e fun b=>Ln 0 b fun b=>Sf 14 a b fun _=>Sf 15 a f fun _=>.loop [d,.int .i64 0] (fun a=>Lg 3 e fun b=>Ln 0 b fun b=>Bn .lss (g a 1) b fun b=>.gop b true (.mv c) fun c=>Pk b c (.bool false) fun b=>.ite b (.op (.fad 1 e) fun b=>.op (.ld1 b) fun c=>Lg 3 e fun d=>Ix 6 d (g a 1) fun d=>Ld 6 d fun d=>Cl lW [d] fun d=>.chk (.ld1 b) c (.op (.build iO [(0,1,c),(1,6,d)]) fun b=>.op (.aU 7 1 iO [(0,7,b)]) fun b=>.op (.app 7 72 (g a 0) b) fun b=>Bn .add (g a 1) (.int .i64 1) fun a=>.leaf 0 [b,a])) (.leaf 2 [g a 0,g a 1])) fun a b=>aB a 1 (.leaf 1 b) (aB a 2 (.leaf 0 [g b 0,c,g b 1]) .bad))) (Sf 12 a (.bool true) fun _=>.leaf 0 [d,.tup [],.tup []])) (fun c=>Lf 12 x0 fun d=>Sf 18 a d fun _=>.op (.bg x0) fun d=>.op (.fad 22 d) fun d=>Lg 0 d fun d=>Sf 16 a d fun _=>.op (.bg x0) fun d=>.op (.fad 14 d) fun d=>.op (.ld1 d) fun e=>Lg 8 b fun b=>Lf 14 x0 fun f=>Ln 0 f fun f=>Cl d9 [b,f] fun b=>.chk (.ld1 d) e (Ix 2 e b fun b=>.op (.fad 0 b) fun b=>.op (.st 1 b (.int .i64 (-1))) fun _=>.op (.bg x0) fun b=>.op (.fad 15 b) fun b=>.op (.st 1 b (.int .i64 (-1))) fun _=>Ln 0 (g c 0) fun b=>Bn .eql b (.int .i64 0) fun b=>.ite b (Lf 12 x0 fun b=>Sf 19 a b fun _=>Lf 29 x0 fun a=>.op (.build gJ []) fun b=>Ix 12 a x1 fun a=>.op (.st 12 a b) fun _=>.fin []) (Lf 29 x0 fun a=>Ix 12 a x1 fun a=>Sg 1 a (.int .i64 3) fun _=>Lf 29 x0 fun a=>Ix 12 a x1 fun a=>Sg 10 a (g c 0) fun _=>.fin []))) fun a b=>aB a 1 (.leaf 1 b) .bad)
theorem ag3 (x0 x1:AV):CC Tryz.prog KE [x0,x1] (SG x0 x1):=cc Tryz.func238 [0,1,4,5,6,8,10,15] (fun r=>if r=1 then[(0,[]),(1,[]),(2,[]),(3,[]),(4,[]),(5,[]),(6,[]),(7,[])] else if r=2 then[(0,[]),(1,[]),(2,[]),(3,[]),(4,[]),(5,[]),(10,[]),(6,[10]),(7,[]),(8,[]),(9,[]),(11,[]),(12,[])] else if r=5 then[(0,[]),(1,[]),(2,[]),(3,[]),(4,[]),(5,[]),(6,[]),(7,[]),(8,[]),(10,[]),(9,[10]),(11,[])] else if r=6 then[(0,[]),(1,[]),(2,[]),(3,[]),(4,[]),(5,[]),(6,[]),(7,[]),(8,[]),(9,[]),(10,[]),(11,[]),(12,[]),(13,[]),(14,[])] else if r=17 then[(0,[]),(1,[]),(2,[]),(3,[]),(4,[]),(5,[]),(6,[]),(7,[]),(8,[2]),(9,[]),(10,[]),(11,[]),(12,[])] else if r=21 then[(0,[]),(1,[]),(2,[]),(3,[]),(4,[]),(5,[]),(6,[]),(7,[]),(8,[]),(9,[]),(10,[]),(11,[3]),(12,[]),(13,[]),(14,[])] else[])
end
theorem Xa {P:Program} {h:AH} {Q:Nat→List AV→AH→Prop} {p:Prog} {kn:List AV→Prog} {ka:Nat→List AV→Prog} (R:List AV→AH→Prop) (h1:p.awp P h fun t vs h2=>t=0∧R vs h2) (hk:∀ vs h2,R vs h2→(kn vs).awp P h2 Q):(Prog.scope p kn ka).awp P h Q:=by
 refine lY (Prog.yE _ h1 ?_)
 rintro t vs h3 ⟨rfl,hR⟩
 exact jW (hk vs h3 hR)
section
variable{h:AH} {b B:Bucket} {n N:Int} {K ok:Bool} {p:Pol} {l:List Span} {v vl:AV} {F Fl:List Nat}
theorem ad2 (hB:B=qI b n):aM Tryz.prog Ak [.agg [.int .i64 b.rate,.int .i64 b.bn,.int .i64 b.tokens,.int .i64 b.at_],.int .i64 n] h (.agg [.int .i64 B.rate,.int .i64 B.bn,.int .i64 B.tokens,.int .i64 B.at_]):=by subst hB;exact agi
theorem agh (hB:B=oZ b n) (hk:ok=nG b n):aM Tryz.prog Au [.agg [.int .i64 b.rate,.int .i64 b.bn,.int .i64 b.tokens,.int .i64 b.at_],.int .i64 n] h (.tup [.agg [.int .i64 B.rate,.int .i64 B.bn,.int .i64 B.tokens,.int .i64 B.at_],.bool ok]):=by subst hB;subst hk;exact ah1
theorem agj (hK:K=pq p l n) (hN:N=qK p l n) (r:au h v p.l F) (rl:au h vl l Fl):aM Tryz.prog Av [.agg [.int .i64 p.kind,.int .i64 p.n,.str p.key,.str p.text,v],vl,.int .i64 n] h (.tup [.bool K,.int .i64 N]):=by subst hK;subst hN;exact ah4 r rl
end
theorem ak4 {P:Program} {h:AH} {Q:Nat→List AV→AH→Prop} {K:AV→Prog} {c:Bool} {a1 a2:Nat} {s1 s2:Int} {o1 o2 p0 p1 p2 p3 p4 p5 p6 p7 p8 p9 p10:AV} {z:AV} (b1:Bk h a1 [o1,.int .i64 s1,o2,z] 0) (b2:Bk h a2 [p0,p1,p2,p3,p4,p5,p6,p7,p8,.int .i64 s2,p9,p10] 0) (hk:(K (.bool (c && decide (s1=s2)))).awp P h Q):(Prog.gop (.bool c) true (.fad 1 (.ptr a1 0)) fun v25=>.gop (.bool c) true (.ld1 v25) fun v26=>.gop (.bool c) true (.fad 9 (.ptr a2 0)) fun v27=>.gop (.bool c) true (.ld1 v27) fun v28=>.gop (.bool c) true (.bin 0 .eql v26 v28) fun v29=>.op (.pick (.bool c) v29 (.bool false)) K).awp P h Q:=by
 cases c with
 |false=>
  rw[Bool.false_and] at hk
  (repeat' first|refine vs0 ?_|fail)
  exact hk
 |true=>
  rw[Bool.true_and] at hk
  (repeat' first|refine vs0 ?_|fail)
  refine br (fun e=>?_) (fun e=>?_)
  ·rw[decide_eq_true e] at hk
   (repeat' first|refine vs0 ?_|fail)
   exact hk
  ·rw[decide_eq_false e] at hk
   (repeat' first|refine vs0 ?_|fail)
   exact hk
section
variable{n m b:Nat} {h0 h h':AH} {x:Wld} {V:WV} {F0 F:WF} {X:List Nat}
theorem amr (s:WS n m h0 b F0 h x V F) (k:Kp h h' X) (hX:∀ c∈X,m≤c∧c≠b∧c ∉ F.a):WS n m h0 b F0 h' x V F:=by
 have w:=s.w
 have dj:∀ (j:Nat) (G:List Nat),F.l[j]? =some G→∀ c∈G,c ∉ X:=fun j G hG c hc hX'=>(hX c hX').2.2 (fE.2 ⟨j,G,hG,hc⟩)
 exact⟨⟨bF k w.bk fun hm=>(hX b hm).2.1 rfl,w.nb,⟨fun i G hG=>⟨dD k (w.sep.own i G hG).1 (dj i G hG),(w.sep.own i G hG).2⟩,w.sep.dis⟩,aL k w.r0 (dj 0 _ rfl),aL k w.r1 (dj 1 _ rfl),aL k w.r2 (dj 2 _ rfl),aL k w.r3 (dj 3 _ rfl),aL k w.r4 (dj 4 _ rfl),aL k w.r5 (dj 5 _ rfl),aL k w.r6 (dj 6 _ rfl),aL k w.r7 (dj 7 _ rfl),aL k w.r8 (dj 8 _ rfl),aL k w.r9 (dj 9 _ rfl),aL k w.r10 (dj 10 _ rfl)⟩,s.mv.trans (Mv.ofX k (fun c hc=>.inr (.inr (hX c hc).1)) s.hm fun c hc=>.inl hc),Nat.le_trans s.hm k.1⟩
end
theorem BQ {Y:AH} {q:Nat} (h:Y.n=q):au (Y.push ⟨[],7,0⟩) (.sl q 0 0) ([]:List Itm) [q]∧bO q (Y.push ⟨[],7,0⟩) [q]:=by
 subst h
 obtain⟨re,oe⟩:=jy (h:=Y) (α:=Itm) (w:=7) rfl
 exact⟨re,oe _ (Nat.le_refl _),re.lt⟩
theorem alq {Y:AH} {q n:Nat} (h:Y.n=q) (hn:n≤q):bO n (Y.push ⟨[],7,0⟩) [q]:=⟨(BQ h).2.1.mono hn fun _ _=>rfl,(BQ h).2.2⟩
theorem ajV {P:Program} {X:AH} {Q:Nat→List AV→AH→Prop} {p:Prog} (hk:∀ q,q=X.n→p.awp P (X.push ⟨[],7,0⟩) Q):p.awp P (X.push ⟨[],7,0⟩) Q:=hk _ rfl
def Zz (n:Nat) (h:AH) (b k:Nat) (F:WF) (x:Wld) (t:Task) (v9 v10:AV) (hd:Nat) (h2:AH) (u:AV):Prop:=
 ∃ (hand:List Itm) (G:List Nat) (x1:Wld) (V1:WV) (F1:WF) (Y:Wld) (d1:bI),WS n h.n h b F h2 x1 V1 F1∧V1.v9=v9∧V1.v10=v10∧au h2 u hand G∧Own h.n h2 G∧(∀ c∈G,c ∉ F1.a)∧x1={Y with aF:=x.aF.set hd d1}∧nU x k t=wL Y k t hand∧Y.aF=x.aF.set hd {d1 with lin:=x.time,now:=x.w.now}∧Y.time=x.time∧Y.w.now=x.w.now∧Y.tasks=x.tasks∧Y.st.length=x.st.length
theorem agb {h:AH} {n b k:Nat} {x:Wld} {V:WV} {F:WF} {t:Task} {d:bI} (w:PW n h b x V F) (ht:x.tasks[k]? =some t) (hd:x.aF[t.h.toNat]? =some d) (h0:0≤t.h) (h1:1≤(x.st.length:Int)) (hs:Sz.sz x≤33554432) (hc:x.cache.length≤1048576):bN Tryz.prog KE [.ptr b 0,.int .i64 (k:Int)] h fun v h'=>v= .tup []∧kX n h.n h b F (nU x k t) h':=by
 obtain⟨v0,v1,v2,v3,v4,v5,v6,v7,v8,v9,v10⟩:=V
 have hk:k < x.tasks.length:=(List.getElem?_eq_some_iff.1 ht).1
 have hdl:t.h.toNat < x.aF.length:=(List.getElem?_eq_some_iff.1 hd).1
 have hst:=tY hs
 have s:=w.ws
 obtain⟨b9,o9,e9⟩:=w.r9.sl ht;have e9:v9= .sl b9 o9 x.tasks.length:=e9;subst e9;have l9:b9 < _:=dZ w.r9;obtain⟨b10,o10,e10⟩:=w.r10.sl hd;have e10:v10= .sl b10 o10 x.aF.length:=e10;subst e10;have l10:b10 < _:=dZ w.r10
 have bk:=bkE w
 have hb:=bk.1
 have r0:au h v0 x.c.rule.l F.f0:=w.r0
 have r1:au h v1 x.st F.f1:=w.r1
 obtain⟨dI,dJ,dU,j6,kG,ek,j5,j4,kH,iT,kF,kD,kE,jT,jk,gW⟩:=s.dL (bb:=b9) (off:=o9) ht rfl;have ek:EK Task _ _ _ b9 (o9+k * 12) [.int .i64 t.op,.int .i64 t.pc,.int .i64 t.s.trace,.int .i64 t.s.id,.int .i64 t.s.start,.int .i64 t.s.fin,.bool t.s.err,dI,.int .i64 t.trace,.int .i64 t.stamp,dJ,.int .i64 t.h] _ _ _ _:=ek
 have at9:=ek.at_
 have nbx:∀ c,h.n≤c→c ∉ b::F.a:=fun c hc' hm=>by
  rcases List.mem_cons.1 hm with q|q
  ·omega
  ·have:=s.lt c q;omega
 refine ag3 _ _ ?_
 unfold SG
 (repeat' first|refine vsx ?_|refine ao4 ?_|fail)
 refine aK (Jl (l:=x.st) (id:=t.trace) (by omega) ah) ?_
 rintro _ h2 ⟨e2,_,G2,rfl,⟨z2,rfl,zq2⟩,oG2⟩
 have n2:=e2.1;(try simp only[aH,aN] at n2)
 (repeat' first|refine vs0 ?_|((with_reducible refine fU ?_);refine fT aV ?_)|fail)
 refine ak4 aV aV ?_
 refine ajV fun q hq=>?_
 rw[←hq]
 have hqn:q=h2.n:=by simpa using hq
 refine Xa (fun vs h'=>∃ u a1 a2,vs=[u,a1,a2]∧Zz n h b k F x t (.sl b9 o9 x.tasks.length) (.sl b10 o10 x.aF.length) t.h.toNat h' u∧Bk h' h.n [.int .i64 t.op,.int .i64 t.pc,.int .i64 t.s.trace,.int .i64 t.s.id,.int .i64 t.s.start,.int .i64 t.s.fin,.bool t.s.err,dI,.int .i64 t.trace,.int .i64 t.stamp,dJ,.int .i64 t.h] 0) ?_ ?_
 ·by_cases hit:eG x.st t.trace=true∧(cO x.st t.trace).stamp=t.stamp
  ·obtain⟨hf,hsm⟩:=hit
   obtain⟨o,ho⟩:∃ o,fq x.st t.trace=some o:=by unfold eG at hf;exact Option.isSome_iff_exists.1 hf
   have hoo:=(mV ho).1
   have hsh:vY x t:=⟨hf,hsm⟩
   rw[hf,decide_eq_true hsm,Bool.and_self]
   rw[hoo] at hsm zq2
   rw[hoo]
   have hso:Sz.sz o≤33554432:=by
    obtain⟨yo,jo,hyo,hjo,-,-⟩:=xV ho
    have a1:=bC (List.mem_of_getElem? hyo);have a2:=bC (List.mem_of_getElem? hjo)
    have e1:Sz.sz yo=yo.l.length+szs yo.l:=rfl
    omega
   have hsl:Sz.sz o=o.spans.length+szs o.spans:=rfl
   obtain⟨B,hB⟩:∃ B,B=qI x.b x.w.now:=⟨_,rfl⟩
   obtain⟨K,hK⟩:∃ K,K=pq x.c.rule o.spans B.tokens:=⟨_,rfl⟩
   obtain⟨N,hN⟩:∃ N,N=qK x.c.rule o.spans B.tokens:=⟨_,rfl⟩
   obtain⟨S,hS⟩:∃ S,S=oZ B N:=⟨_,rfl⟩
   obtain⟨ok,hok⟩:∃ ok,ok=nG B N:=⟨_,rfl⟩
   (repeat' first|refine vsx ?_|(with_reducible refine aW ?_)|((with_reducible refine fU ?_);refine fT aV ?_)|((with_reducible refine aA Ak ?_);(refine aJ (ad2 hB) ?_))|((with_reducible refine aA Av ?_);(refine aJ (agj (p:=x.c.rule) hK hN ah ah) ?_))|((with_reducible refine aA Au ?_);(refine aJ (agh hS hok) ?_))|fail)
   refine s.iR {x with b:=S} (fun x1 e1 s1=>?_) iq (by rfl)
   have hbG:b ∉ G2:=fun hm=>by have:=(oG2.2 b hm).1;(try simp only[aH,aN] at this);omega
   refine aK (aaD (o:=o) (keep:=K) s1.w (ah:au _ z2 o.spans G2) hbG (by omega) (by rw[e1];exact(by omega:x.st.length+szs x.st≤67108864)) (by rw[e1];exact hc)) ?_
   rintro _ h5 ⟨rfl,W⟩
   obtain⟨V5,F5,s5,e9v,jq,kk5,n5,m5⟩:=ni s1 W
   have bx6:Bk h5 h.n [.int .i64 t.op,.int .i64 t.pc,.int .i64 t.s.trace,.int .i64 t.s.id,.int .i64 t.s.start,.int .i64 t.s.fin,.bool t.s.err,dI,.int .i64 t.trace,.int .i64 t.stamp,dJ,.int .i64 t.h] 0:=bF kk5 aV (nbx _ (Nat.le_refl _))
   have an1:Bk h5 (h.push ⟨[.int .i64 t.op,.int .i64 t.pc,.int .i64 t.s.trace,.int .i64 t.s.id,.int .i64 t.s.start,.int .i64 t.s.fin,.bool t.s.err,dI,.int .i64 t.trace,.int .i64 t.stamp,dJ,.int .i64 t.h],0,0⟩).n [.int .i64 o.id,.int .i64 o.stamp,.int .i64 o.first,z2] 0:=bF kk5 aV (nbx _ (by simp))
   have zq5:au h5 z2 o.spans G2:=aL kk5 (ah:au _ z2 o.spans G2) fun c hc' hm=>nbx c (by have:=(oG2.2 c hc').1;(try simp only[aH,aN] at this);omega) hm
   have re5:au h5 (.sl q 0 0) ([]:List Itm) [q]:=aL kk5 (oQ (oQ (BQ (by simp[hqn])).1)) fun c hc' hm=>nbx c (by rw[List.mem_singleton.1 hc'];omega) hm
   have oe5:bO q h5 [q]:=dD kk5 (jO (jO (BQ (by simp[hqn])).2)) fun c hc' hm=>nbx c (by rw[List.mem_singleton.1 hc'];omega) hm
   have n5':q+1+1+1≤h5.n:=by simp only[aH,aN] at n5;omega
   have qF5:q ∉ F5.a:=fun hm=>by
    rcases m5 q hm with p|p
    ·have:=s.lt q p;omega
    ·simp only[aH,aN] at p;omega
   obtain⟨x5,hx5,s5⟩:=s5.gen
   obtain⟨y0,y1,y2,y3,y4,y5,y6,y7,y8,y9,y10⟩:=V5
   have e9v:y9= .sl b9 o9 x.tasks.length:=e9v
   have jq:y10= .sl b10 o10 x.aF.length:=jq
   subst e9v jq
   have hd5:x5.aF[t.h.toNat]? =some d:=by rw[hx5,e1];exact hd
   obtain⟨jm,rC,rR,ed,rA,rU,rP,pQ,rO,rQ,rV,pG,je⟩:=s5.mU (bb:=b10) (off:=o10) hd5 rfl;have ed:EK bI _ _ _ b10 (o10+t.h.toNat * 20) [.int .i64 d.op,.int .i64 d.task,.int .i64 d.s.trace,.int .i64 d.s.id,.int .i64 d.s.start,.int .i64 d.s.fin,.bool d.s.err,jm,.int .i64 d.trace,.int .i64 d.stamp,.int .i64 d.code,.bool d.keep,.bool d.void,.int .i64 d.took,.int .i64 d.n,.int .i64 d.forgot,.int .i64 d.now,.int .i64 d.inv,.int .i64 d.lin,.int .i64 d.res] _ _ _ _:=ed
   clear bk at9 r0 r1 W kk5
   (repeat' first|((with_reducible refine bW ?_);refine EK.st_ (ed.ext aD) (by rfl) (by rfl) aX ?_;intro h_ ed k_ n_)|refine vsx ?_|(with_reducible refine aW ?_)|fail)
   obtain⟨x6,F6,e6,s6,m6⟩:=je _ {d with keep:=K,took:=N,n:=o.spans.length,forgot:=iX x1 o K} rfl ed
   have NY:b10 < h.n:=l10
   have n6:=ed.k.1
   have h10:∀ c,h.n≤c→c ∉ [b10]:=fun c h1 h2=>by have:=List.mem_singleton.1 h2;omega
   have IY:Bk h_ h.n [.int .i64 t.op,.int .i64 t.pc,.int .i64 t.s.trace,.int .i64 t.s.id,.int .i64 t.s.start,.int .i64 t.s.fin,.bool t.s.err,dI,.int .i64 t.trace,.int .i64 t.stamp,dJ,.int .i64 t.h] 0:=bF ed.k bx6 (h10 _ (Nat.le_refl _))
   have am1:Bk h_ (h.push ⟨[.int .i64 t.op,.int .i64 t.pc,.int .i64 t.s.trace,.int .i64 t.s.id,.int .i64 t.s.start,.int .i64 t.s.fin,.bool t.s.err,dI,.int .i64 t.trace,.int .i64 t.stamp,dJ,.int .i64 t.h],0,0⟩).n [.int .i64 o.id,.int .i64 o.stamp,.int .i64 o.first,z2] 0:=bF ed.k an1 (h10 _ (by simp))
   have Cw:∀ c∈G2,h.n+1≤c:=fun c hc=>by have:=(oG2.2 c hc).1;(try simp only[aH,aN] at this);omega
   have zq6:au h_ z2 o.spans G2:=aL ed.k zq5 fun c hc=>h10 c (by have:=Cw c hc;omega)
   have lG2:∀ c∈G2,c < q:=fun c hc=>by have:=zq2.lt c hc;omega
   have re6:au h_ (.sl q 0 0) ([]:List Itm) [q]:=aL ed.k re5 fun c hc=>h10 c (by rw[List.mem_singleton.1 hc];omega)
   have oe6:bO q h_ [q]:=dD ed.k oe5 fun c hc=>h10 c (by rw[List.mem_singleton.1 hc];omega)
   have qF6:q ∉ F6.a:=fun hm=>qF5 (m6 q hm)
   have hB':zx x=B:=hB.symm
   have hK':nV x t=K:=by unfold nV;rw[hoo,hB',hK]
   have hN':uz x t=N:=by unfold uz;rw[hoo,hB',hN]
   have hfg:iX x1 o K=iX x o K:=by rw[e1];rfl
   have fin:∀ (u a1 a2:AV) (h7:AH) (G:List Nat),Kp h_ h7 [q]→au h7 u (lS x t) G→Own q h7 G→(∀ c∈G,c=q∨h_.n≤c)→∃ u' a1' a2',[u,a1,a2]=[u',a1',a2']∧Zz n h b k F x t (.sl b9 o9 x.tasks.length) (.sl b10 o10 x.aF.length) t.h.toNat h7 u'∧Bk h7 h.n [.int .i64 t.op,.int .i64 t.pc,.int .i64 t.s.trace,.int .i64 t.s.id,.int .i64 t.s.start,.int .i64 t.s.fin,.bool t.s.err,dI,.int .i64 t.trace,.int .i64 t.stamp,dJ,.int .i64 t.h] 0:=fun u a1 a2 h7 G k7 r7 o7 m7=>by
    have s7:=amr s6 k7 fun c hc=>⟨by rw[List.mem_singleton.1 hc];omega,by rw[List.mem_singleton.1 hc];omega,by rw[List.mem_singleton.1 hc];exact qF6⟩
    refine⟨u,a1,a2,rfl,⟨lS x t,G,x6,_,F6,{mQ x o K with b:=S,aF:=x.aF.set t.h.toNat {d with keep:=K,took:=N,n:=o.spans.length,forgot:=iX x o K,lin:=x.time,now:=x.w.now}},{d with keep:=K,took:=N,n:=o.spans.length,forgot:=iX x o K},s7,rfl,rfl,r7,⟨o7.1,fun c hc=>⟨by have:=(o7.2 c hc).1;omega,(o7.2 c hc).2⟩⟩,fun c hc hm=>?_,?_,?_,rfl,rfl,rfl,rfl,?_⟩,bF k7 IY fun hm=>by have:=List.mem_singleton.1 hm;omega⟩
    ·rcases m7 c hc with e|e
     ·exact qF6 (e▸hm)
     ·have:=s6.lt c hm;omega
    ·rw[e6,hx5,e1];rfl
    ·unfold nU;rw[fI hsh,if_pos rfl,hK',hN',hoo,hB',←hS,iQ hd]
    ·show((gN x.st o.id).length:Nat)=x.st.length
     exact yD
   cases K with
   |false=>
    have hH:lS x t=[]:=by unfold lS;rw[hK'];rfl
    rw[hH] at fin
    refine aT 1 (fun i vs h7=>vs=[.sl q 0 0,.int .i64 (i:Int)]∧i=0∧h7=h_) ⟨rfl,rfl,rfl⟩ ?_
    rintro i vs h7 _ ⟨rfl,hi,rfl⟩
    subst hi
    simp only[g0,g1]
    (repeat' first|refine vsx ?_|(refine br ?_ ?_<;>first|exact bx|intro _)|fail)
    all_goals exact⟨rfl,fin _ _ _ _ [q] (Kp.refl _ _) re6 oe6.1 fun c hc=>.inl (List.mem_singleton.1 hc)⟩
   |true=>
    have hH:lS x t=o.spans.map fun s=>(⟨t.stamp,s⟩:Itm):=by unfold lS;rw[hK',if_pos rfl,hoo]
    rw[hH] at fin
    refine aT o.spans.length (fun i vs h7=>∃ u G,vs=[u,.int .i64 (i:Int)]∧i≤o.spans.length∧Kp h_ h7 [q]∧au h7 u ((o.spans.take i).map fun s=>(⟨t.stamp,s⟩:Itm)) G∧Own q h7 G∧∀ c∈G,c=q∨h_.n≤c) ⟨_,[q],rfl,Nat.zero_le _,Kp.refl _ _,re6,oe6.1,fun c hc=>.inl (List.mem_singleton.1 hc)⟩ ?_
    rintro i vs h7 _ ⟨u,G,rfl,hi,k7,ru,ou,mu⟩
    simp only[g0,g1]
    have n7:=k7.1
    have hnq:∀ c,c < q→c ∉ [q]:=fun c h1 h2=>by have:=List.mem_singleton.1 h2;omega
    have zq7:au h7 z2 o.spans G2:=aL k7 zq6 fun c hc=>hnq c (lG2 c hc)
    have bx7:Bk h7 (h.push ⟨[.int .i64 t.op,.int .i64 t.pc,.int .i64 t.s.trace,.int .i64 t.s.id,.int .i64 t.s.start,.int .i64 t.s.fin,.bool t.s.err,dI,.int .i64 t.trace,.int .i64 t.stamp,dJ,.int .i64 t.h],0,0⟩).n [.int .i64 o.id,.int .i64 o.stamp,.int .i64 o.first,z2] 0:=bF k7 am1 (hnq _ (by simp only[aH];omega))
    by_cases hlt:(i:Int) < o.spans.length
    ·obtain⟨y,hy,-,hty⟩:=aP (show i < o.spans.length by omega)
     have hm:=bC (List.mem_of_getElem? hy)
     (repeat' first|refine vsx ?_|(refine br ?_ ?_<;>first|exact bo|intro _)|((with_reducible refine aY ?_);((refine ix ?_);rintro _ _ _ _ _ ⟨_,rfl,_⟩ _))|fail)
     all_goals try(exfalso;omega)
     refine aK (sI y (by omega) _ _ _ ⟨_,rfl,ah⟩) ?_
     rintro _ h8 ⟨e8,_,G8,rfl,⟨w8,rfl,q8⟩,o8⟩
     have n8:=e8.1
     (repeat' first|refine vsx ?_|fail)
     refine iJ (n:=q) (jM e8 ru) (⟨w8,rfl,q8⟩:Cel.rep h8 (⟨o.stamp,y⟩:Itm) _ G8) (fK (ou.ext e8 ru.lt) (o8.mono (by omega) fun _ _=>rfl) (Nat.le_refl _) fun c hc hm=>by have:=(o8.2 c hm).1;have:=ru.lt c hc;omega) (by omega) rfl (by rw[List.length_map,List.length_take];omega) (by rw[List.length_map,List.length_take];omega) ?_
     intro v' h9 f _ k9 q9 o9' m9
     have n9:=k9.1
     (repeat' first|refine vsx ?_|fail)
     refine⟨by omega,v',f,rfl,by omega,⟨by omega,fun c hc hX=>?_⟩,by rw[hty,List.map_append,←hsm];rw[←hsm] at q9;exact q9,o9',fun c hc=>?_⟩
     ·have h1:c ∉ G:=fun hm=>by
       rcases mu c hm with e|e
       ·exact hX (e▸List.mem_singleton.2 rfl)
       ·omega
      exact(k9.2 c (by omega) h1).trans ((e8.2 c (by omega)).trans (k7.2 c hc hX))
     ·rcases m9 c hc with p|p|p
      ·exact mu c p
      ·have:=(o8.2 c p).1;exact .inr (by omega)
      ·exact .inr (by omega)
    ·have hi':i=o.spans.length:=by omega
     subst hi'
     rw[List.take_length] at ru
     (repeat' first|refine vsx ?_|(refine br ?_ ?_<;>first|exact bo|intro _)|fail)
     all_goals try(exfalso;omega)
     exact⟨rfl,fin _ _ _ _ G k7 ru ou mu⟩
  ·have hc2:(eG x.st t.trace && decide ((cO x.st t.trace).stamp=t.stamp))=false:=by
    rw[Bool.eq_false_iff];intro p;rw[Bool.and_eq_true,decide_eq_true_iff] at p;exact hit p
   rw[hc2]
   have NY:b10 < h.n:=l10
   obtain⟨jm,rC,rR,ed,rA,rU,rP,pQ,rO,rQ,rV,pG,je⟩:=s.mU (bb:=b10) (off:=o10) hd rfl;have ed:EK bI _ _ _ b10 (o10+t.h.toNat * 20) [.int .i64 d.op,.int .i64 d.task,.int .i64 d.s.trace,.int .i64 d.s.id,.int .i64 d.s.start,.int .i64 d.s.fin,.bool d.s.err,jm,.int .i64 d.trace,.int .i64 d.stamp,.int .i64 d.code,.bool d.keep,.bool d.void,.int .i64 d.took,.int .i64 d.n,.int .i64 d.forgot,.int .i64 d.now,.int .i64 d.inv,.int .i64 d.lin,.int .i64 d.res] _ _ _ _:=ed
   (repeat' first|((with_reducible refine bW ?_);refine EK.st_ (ed.ext aD) (by rfl) (by rfl) aX ?_;intro h_ ed k_ n_)|refine vsx ?_|(with_reducible refine aW ?_)|fail)
   obtain⟨x6,F6,e6,s6,m6⟩:=je _ {d with void:=true} rfl ed
   have h10:∀ c,h.n≤c→c ∉ [b10]:=fun c h1 h2=>by have:=List.mem_singleton.1 h2;omega
   refine⟨rfl,_,_,_,rfl,⟨[],[q],x6,_,F6,{x with aF:=x.aF.set t.h.toNat {d with void:=true,lin:=x.time,now:=x.w.now}},{d with void:=true},s6,rfl,rfl,aL k_ (BQ (by simp[hqn])).1 fun c hc=>h10 c (by rw[List.mem_singleton.1 hc];omega),(dD k_ (alq (by simp[hqn]) (by omega)) fun c hc=>h10 c (by rw[List.mem_singleton.1 hc];omega)).1,fun c hc hm=>?_,e6,?_,rfl,rfl,rfl,rfl,rfl⟩,bF k_ aV (h10 _ (Nat.le_refl _))⟩
   ·have:=s.lt c (m6 c hm);have:=List.mem_singleton.1 hc;omega
   ·have hns: ¬ vY x t:=hit
    unfold nU;rw[gu hns,if_neg (by decide),iQ hd]
 ·rintro vs h7 ⟨u,a1,a2,rfl,⟨hand,G,x1,V1,F1,Y,d1,s1,e9v,jq,ru,ou,mu,ex1,eS,eYd,eYt,eYn,eYk,eYl⟩,bx6⟩
  simp only[g0,g1,g2]
  clear bk at9 r0 r1 gW jk
  obtain⟨v0,v1,v2,v3,v4,v5,v6,v7,v8,v9,v10⟩:=V1
  have e9v:v9= .sl b9 o9 x.tasks.length:=e9v
  have jq:v10= .sl b10 o10 x.aF.length:=jq
  subst e9v jq
  have hd1:x1.aF[t.h.toNat]? =some d1:=by rw[ex1];exact List.getElem?_set_self hdl
  have CB:t.h.toNat < x1.aF.length:=(List.getElem?_eq_some_iff.1 hd1).1
  have anQ:x.aF.length=x1.aF.length:=by rw[ex1];simp
  have ht1:x1.tasks[k]? =some t:=by rw[ex1];show Y.tasks[k]? =_;rw[eYk];exact ht
  have hk1:k < x1.tasks.length:=(List.getElem?_eq_some_iff.1 ht1).1
  have hkl:x.tasks.length=x1.tasks.length:=by rw[ex1];show _=Y.tasks.length;rw[eYk]
  have hT:x1.time=x.time:=by rw[ex1];exact eYt
  have hW:x1.w.now=x.w.now:=by rw[ex1];exact eYn
  have h11:1≤(x1.st.length:Int):=by rw[ex1];show 1≤(Y.st.length:Int);omega
  have w1:=s1.w
  obtain⟨yy,hyy⟩:=lu h11 t.trace
  have hsb:=iU (t:=t.trace) h11
  obtain⟨b1,o1,e1⟩:=w1.r1.sl hyy;have e1:v1= .sl b1 o1 x1.st.length:=e1;subst e1;have l1:b1 < _:=dZ w1.r1
  have bk7:=bkE w1
  obtain⟨jm,rC,rR,ed,rA,rU,rP,pQ,rO,rQ,rV,pG,je⟩:=s1.mU (bb:=b10) (off:=o10) hd1 rfl;have ed:EK bI _ _ _ b10 (o10+t.h.toNat * 20) [.int .i64 d1.op,.int .i64 d1.task,.int .i64 d1.s.trace,.int .i64 d1.s.id,.int .i64 d1.s.start,.int .i64 d1.s.fin,.bool d1.s.err,jm,.int .i64 d1.trace,.int .i64 d1.stamp,.int .i64 d1.code,.bool d1.keep,.bool d1.void,.int .i64 d1.took,.int .i64 d1.n,.int .i64 d1.forgot,.int .i64 d1.now,.int .i64 d1.inv,.int .i64 d1.lin,.int .i64 d1.res] _ _ _ _:=ed
  have hb7:=bk7.1
  have n7:h.n≤h7.n:=s1.hm
  (repeat' first|((with_reducible refine bW ?_);refine EK.st_ (ed.ext aD) (by rfl) (by rfl) aX ?_;intro h_ ed k_ n_)|refine vsx ?_|refine ao4 ?_|((with_reducible refine aA d9 ?_);refine aJ iD ?_)|fail)
  obtain⟨x2,F2,e2',s2,m2⟩:=je _ {d1 with lin:=x1.time,now:=x1.w.now} rfl ed
  have hb9:b9 < h.n:=l9
  have NY:b10 < h.n:=l10
  have gq:∀ c∈G,h.n≤c:=fun c hc=>(ou.2 c hc).1
  have ru2:au h_ u hand G:=aL ed.k ru fun c hc hm=>by have:=gq c hc;have:=List.mem_singleton.1 hm;omega
  have ou2:bO h.n h_ G:=dD ed.k ⟨ou,ru.lt⟩ fun c hc hm=>by have:=gq c hc;have:=List.mem_singleton.1 hm;omega
  have anH:x2.st[(stripe t.trace x1.st.length).toNat]? =some yy:=by rw[e2'];exact hyy
  obtain⟨mJ,zi,zJ,ez,zh,zK,zG,zI,zF,zH,wN,uj,og⟩:=s2.kS (bb:=b1) (off:=o1) anH rfl;have ez:EK aQ _ _ _ b1 (o1+(stripe t.trace x1.st.length).toNat * 2) [.int .i64 yy.held,mJ] _ _ _ _:=ez
  have hb1:b1 < h7.n:=l1
  obtain⟨h8,hh8⟩:∃ h8,h8=h_:=⟨_,rfl⟩
  refine EK.st0 ez (by rfl) (by rfl) aX ?_
  intro h_ ez k8 n8
  obtain⟨x3,F3,e3,s3,m3⟩:=og _ {yy with held:=-1} rfl ez
  have mF:∀ c∈F3.a,c∈F1.a:=fun c hc=>m2 c (m3 c hc)
  have g1:∀ c∈G,c ∉ [b1]:=fun c hc hm=>mu c hc (m2 _ (F2.in1 _ (by rw[List.mem_singleton.1 hm];exact wN)))
  have ru3:au h_ u hand G:=aL k8 ru2 g1
  have ou3:bO h.n h_ G:=dD k8 ou2 g1
  have bk9:=bkE s3.w
  have hbb:=bk9.1
  have bG:b ∉ G:=fun hm=>by have:=gq b hm;omega
  have hyY:Y.st[(stripe t.trace Y.st.length).toNat]? =some yy:=by have:=hyy;rw[ex1] at this;exact this
  have hdY:Y.aF[t.h.toNat]? =some {d1 with lin:=x.time,now:=x.w.now}:=by rw[eYd];exact List.getElem?_set_self hdl
  clear bk7
  by_cases hl:hand.length=0
  ·(repeat' first|refine vsx ?_|(with_reducible refine aW ?_)|(refine br ?_ ?_<;>first|exact bo|intro _)|fail)
   all_goals try(exfalso;omega)
   refine s3.iR {x3 with bS:=-1} (fun x4 e4 s4=>?_) iq (by rfl)
   obtain⟨d4,Zn⟩:∃ d4,d4=({d1 with lin:=x1.time,now:=x1.w.now}:bI):=⟨_,rfl⟩
   have hd4:x4.aF[t.h.toNat]? =some d4:=by rw[e4,e3,e2',Zn];exact List.getElem?_set_self CB
   have ht4:x4.tasks[k]? =some t:=by rw[e4,e3,e2'];exact ht1
   obtain⟨anX,aoA,aoR,ef,aoy,aoS,aoO,aoQ,aoN,aoP,aoT,aoz,anW⟩:=s4.mU (bb:=b10) (off:=o10) hd4 rfl;have ef:EK bI _ _ _ b10 (o10+t.h.toNat * 20) [.int .i64 d4.op,.int .i64 d4.task,.int .i64 d4.s.trace,.int .i64 d4.s.id,.int .i64 d4.s.start,.int .i64 d4.s.fin,.bool d4.s.err,anX,.int .i64 d4.trace,.int .i64 d4.stamp,.int .i64 d4.code,.bool d4.keep,.bool d4.void,.int .i64 d4.took,.int .i64 d4.n,.int .i64 d4.forgot,.int .i64 d4.now,.int .i64 d4.inv,.int .i64 d4.lin,.int .i64 d4.res] _ _ _ _:=ef
   (repeat' first|((with_reducible refine bW ?_);refine EK.st_ (ef.ext aD) (by rfl) (by rfl) aX ?_;intro h_ ef k_ n_)|refine vsx ?_|refine ao4 ?_|fail)
   obtain⟨x5,F5,e5,s5,m5⟩:=anW _ {d4 with res:=x3.time} rfl ef
   have ht5:x5.tasks[k]? =some t:=by rw[e5];exact ht4
   obtain⟨bZ,bY,gF,gD,gU,et,gM,gL,gI,fZ,gT,gP,gQ,gV,fF,dH⟩:=s5.dL (bb:=b9) (off:=o9) ht5 rfl;have et:EK Task _ _ _ b9 (o9+k * 12) [.int .i64 t.op,.int .i64 t.pc,.int .i64 t.s.trace,.int .i64 t.s.id,.int .i64 t.s.start,.int .i64 t.s.fin,.bool t.s.err,bZ,.int .i64 t.trace,.int .i64 t.stamp,bY,.int .i64 t.h] _ _ _ _:=et
   refine EK.st0 et (by rfl) (by rfl) aX ?_
   intro h9 et k9 n9
   obtain⟨x6,F6,e6,s6,m6⟩:=fF h9 kN .aC .aC [] [] et au.aC au.aC Own.nil (by simp)
   (repeat' first|refine vsw ?_|(refine br ?_ ?_<;>first|exact bx|intro _)|((with_reducible refine aY ?_);((first|refine ix ?_|refine ixi ?_|(refine ixg ?_;intro _ _)|(refine ku ?_;intro _ _));first|rintro _ _ _ _ _ ⟨rfl,rfl⟩ _|rintro _ _ _ _ _ ⟨_,rfl,_⟩ _|rintro _ _ _ _ _ ⟨_,_,_,_,rfl,rfl,_,_⟩ _|intro _ _ _ _ _ _ _))|(refine sx ?_;intro _ _)|refine gS ?_|fail)
   have e:x6=nU x k t:=by
    rw[eS];unfold wL
    rw[if_pos hl,if_pos hl,qC hyY,iQ hdY,eYd,e6,e5,e4,e3,e2',Zn,ex1]
    simp only[List.set_set,eYt,eYn]
   rw[e] at s6
   exact⟨rfl,_,rfl,rfl,s6.done⟩
  ·(repeat' first|refine vsx ?_|refine ao4 ?_|(refine br ?_ ?_<;>first|exact bo|intro _)|fail)
   all_goals try(exfalso;omega)
   refine s3.iR {x3 with bS:=-1} (fun x4 e4 s4=>?_) iq (by rfl)
   have ht4:x4.tasks[k]? =some t:=by rw[e4,e3,e2'];exact ht1
   obtain⟨bZ,bY,gF,gD,gU,et,gM,gL,gI,fZ,gT,gP,gQ,gV,fF,dH⟩:=s4.dL (bb:=b9) (off:=o9) ht4 rfl;have et:EK Task _ _ _ b9 (o9+k * 12) [.int .i64 t.op,.int .i64 t.pc,.int .i64 t.s.trace,.int .i64 t.s.id,.int .i64 t.s.start,.int .i64 t.s.fin,.bool t.s.err,bZ,.int .i64 t.trace,.int .i64 t.stamp,bY,.int .i64 t.h] _ _ _ _:=et
   (repeat' first|((with_reducible refine bW ?_);refine EK.st_ (et.ext aD) (by rfl) (by rfl) aX ?_;intro h_ et k_ n_)|refine vsx ?_|refine ao4 ?_|fail)
   refine EK.st_ et (au.cell ru3) rfl aX ?_
   intro h9 et k9 n9
   have n9G:∀ c∈gF++gD,c ∉ [b9]:=fun c hc hm=>(fZ c hc).1 (List.mem_singleton.1 hm)
   have g9:∀ c∈G,c ∉ [b9]:=fun c hc hm=>by have:=gq c hc;have:=List.mem_singleton.1 hm;omega
   obtain⟨x6,F6,e6,s6,m6⟩:=fF h9 {t with pc:=3,hand:=hand} bZ u gF G et (aL et.k gM fun c hc=>n9G c (List.mem_append_left _ hc)) (aL et.k (fC ru3 bG) g9) (fK (dD et.k ⟨dA gI.1,fun c hc=>gI.2 c (List.mem_append_left _ hc)⟩ fun c hc=>n9G c (List.mem_append_left _ hc)).1 ((dD et.k (dN ou3 bG) g9).1.mono (by have:=w.nb;omega) fun _ _=>rfl) (Nat.le_refl _) fun c hc hm=>mu c hm (mF c (F3.in9 c (fZ c (List.mem_append_left _ hc)).2))) (fun c hc=>by
    rcases List.mem_append.1 hc with p|p
    ·exact .inl (List.mem_append_left _ p)
    ·exact .inr ⟨fun e=>bG (e▸p),fun hm=>mu c p (mF c hm),gq c p⟩)
   (repeat' first|refine vsw ?_|(refine br ?_ ?_<;>first|exact bx|intro _)|((with_reducible refine aY ?_);((first|refine ix ?_|refine ixi ?_|(refine ixg ?_;intro _ _)|(refine ku ?_;intro _ _));first|rintro _ _ _ _ _ ⟨rfl,rfl⟩ _|rintro _ _ _ _ _ ⟨_,rfl,_⟩ _|rintro _ _ _ _ _ ⟨_,_,_,_,rfl,rfl,_,_⟩ _|intro _ _ _ _ _ _ _))|(refine sx ?_;intro _ _)|refine gS ?_|fail)
   have e:x6=nU x k t:=by
    rw[eS];unfold wL
    rw[if_neg hl,if_neg hl,qC hyY,eYd,e6,e4,e3,e2',ex1]
    simp only[List.set_set,eYt,eYn]
   rw[e] at s6
   exact⟨rfl,_,rfl,rfl,s6.done⟩
end Go.Proofs.YtkdjapahgmflbaaGreat
