import Derived.Test.YtcgjihfngdhjjaaGreatDW102
import Derived.Test.YtcgjihfngdhjjaaGreatDW94
import Derived.Test.YtcgjihfngdhjjaaGreatDW128
import Derived.Test.YtcgjihfngdhjjaaGreatDW132
set_option linter.unusedSimpArgs false
set_option linter.unusedVariables false
set_option maxHeartbeats 4000000
set_option maxRecDepth 20000
namespace Go.Proofs.YtcgjihfngdhjjaaGreat
open Go Go.Ab Go.RowKit
attribute[local irreducible] dD
section
def Sl (x0 x1:AV):Prog:=.op (.box x1) fun a=>Lg 0 a fun b=>Bn .eql b (.int .i64 1) fun c=>.ite c (Lg 1 a fun b=>Cl dJ [b,.int .i64 0,.int .i64 2] fun b=>.op (.una .not b) fun b=>.gop b false (.mv x0) fun c=>.gop b false (.bZ c) fun c=>Gf b false 29 c fun c=>Gf b false 1 a fun d=>.gop b false (.idx 12 c d) fun c=>Gf b false 0 c fun c=>.gop b false (.bin 0 .neq c (.int .i64 0)) fun c=>Pk b (.bool true) c fun b=>.ite b (.fin [.val (.bool false)]) (Lg 1 a fun b=>.op (.fad 2 a) fun a=>Ld 6 a fun a=>Cl JZ [x0,b,a] fun _=>.fin [.val (.bool true)])) (Bn .eql b (.int .i64 2) fun c=>.ite c (Lg 1 a fun b=>Cl dJ [b,.int .i64 0,.int .i64 4] fun b=>.gop b true (.mv x0) fun c=>Gf b true 1 a fun a=>.gop b true (.call KL [c,a]) fun a=>Pk b a (.bool false) fun a=>.fin [.val a]) (Bn .eql b (.int .i64 3) fun c=>.scope (.ite c (Lg 1 a fun b=>Cl dJ [b,.int .i64 1,.int .i64 20] fun b=>.op (.una .not b) fun b=>.gop b false (.mv x0) fun c=>.gop b false (.bZ c) fun c=>.gop b false (.fad 22 c) fun c=>Gf b false 0 c fun c=>Gf b false 1 a fun d=>.gop b false (.bin 0 .add c d) fun c=>.gop b false (.bin 0 .gtr c (.int .i64 100000)) fun c=>Pk b (.bool true) c fun b=>.ite b (.fin [.val (.bool false)]) (.op (.bZ x0) fun b=>.op (.fad 22 b) fun b=>Ld 4 b fun b=>Lg 1 a fun a=>.op (.alloc [.int .i64 0,.aA,.aA,.aA]) fun c=>Cl Ko [b,a] fun a=>.chk (.alloc [.int .i64 0,.aA,.aA,.aA]) c (.op (.ext a 0) fun b=>.op (.ext a 1) fun a=>.op (.st 4 c b) fun _=>Ld 4 c fun b=>.op (.bZ x0) fun c=>.op (.fad 22 c) fun c=>.op (.st 4 c b) fun _=>Lf 26 x0 fun b=>.op (.app 3 24 b a) fun a=>Sf 26 x0 a fun _=>.leaf 0 []))) (Bn .eql b (.int .i64 4) fun a=>.scope (.ite a (Lf 27 x0 fun a=>Ln 0 a fun a=>Bn .eql a (.int .i64 0) fun a=>.ite a (.fin [.val (.bool false)]) (Lf 28 x0 fun a=>Lf 27 x0 fun b=>Ix 7 b (.int .i64 0) fun b=>Ld 7 b fun b=>.op (.aS 7 1 pq [(0,7,b)]) fun b=>.op (.app 7 72 a b) fun a=>Sf 28 x0 a fun _=>.op (.aS 7 0 [] []) fun a=>Lf 27 x0 fun b=>.op (.slc 7 b (some (.int .i64 1)) none none) fun b=>.op (.app 7 72 a b) fun a=>Sf 27 x0 a fun _=>.leaf 0 [])) (Bn .eql b (.int .i64 5) fun a=>.ite a (Lf 13 x0 fun a=>.ite a (.fin [.val (.bool false)]) (Sf 13 x0 (.bool true) fun _=>.op (.bZ x0) fun a=>.op (.fad 22 a) fun a=>Lg 0 a fun a=>.op (.bZ x0) fun b=>.op (.fad 26 b) fun b=>.op (.ld1 b) fun c=>.op (.bZ x0) fun d=>.op (.fad 22 d) fun d=>Ld 4 d fun d=>Cl yO [d] fun d=>.chk (.ld1 b) c (.op (.app 3 24 c d) fun b=>Sf 26 x0 b fun _=>Cl AX [] fun b=>.op (.alloc [.int .i64 0,.aA,.aA,.aA]) fun c=>.op (.st 4 c b) fun _=>Sg 0 c a fun _=>Ld 4 c fun b=>.op (.bZ x0) fun c=>.op (.fad 22 c) fun c=>.op (.st 4 c b) fun _=>Lf 30 x0 fun b=>Lf 12 x0 fun c=>Lf 12 x0 fun d=>Lf 12 x0 fun e=>.op (.build jR [(0,1,.int .i64 4),(16,1,a),(17,1,c),(18,1,d),(19,1,e)]) fun a=>.op (.aS 20 1 jR [(0,20,a)]) fun a=>.op (.app 20 168 b a) fun a=>Sf 30 x0 a fun _=>.leaf 0 []))) (.fin [.val (.bool false)]))) (fun _=>.leaf 0 []) fun a b=>aC a 1 (.leaf 1 b) .bad)) (fun _=>Lf 12 x0 fun a=>Bn .add a (.int .i64 1) fun a=>Sf 12 x0 a fun _=>.fin [.val (.bool true)]) fun a b=>aC a 1 (.leaf 1 b) .bad))
theorem aeK (x0 x1:AV):CC Tryz.prog KJ [x0,x1] (Sl x0 x1):=cc Tryz.func170 [0] (fun r=>if r=4 then[(0,[]),(1,[]),(2,[]),(3,[]),(4,[]),(5,[]),(6,[]),(7,[]),(8,[]),(9,[]),(10,[]),(11,[]),(12,[]),(13,[]),(14,[]),(15,[])] else if r=11 then[(0,[]),(1,[]),(2,[]),(3,[]),(4,[]),(5,[]),(6,[]),(7,[]),(8,[]),(9,[]),(10,[]),(11,[]),(12,[]),(13,[]),(14,[])] else if r=13 then[(0,[]),(1,[]),(2,[]),(3,[]),(4,[]),(5,[]),(10,[]),(6,[10]),(7,[]),(8,[]),(9,[]),(11,[]),(12,[])] else if r=19 then[(0,[]),(1,[]),(2,[]),(3,[]),(4,[]),(5,[]),(6,[]),(7,[]),(8,[]),(9,[]),(10,[]),(11,[]),(12,[]),(13,[]),(14,[]),(15,[])] else if r=26 then[(0,[]),(1,[]),(2,[]),(3,[]),(4,[]),(5,[]),(6,[]),(7,[]),(8,[]),(9,[4]),(10,[]),(11,[]),(12,[]),(13,[])] else if r=30 then[(0,[]),(1,[]),(2,[]),(3,[]),(4,[]),(5,[]),(6,[]),(7,[]),(8,[]),(9,[]),(10,[]),(11,[]),(12,[]),(13,[]),(14,[]),(15,[]),(16,[]),(17,[]),(18,[]),(19,[]),(20,[]),(21,[]),(22,[]),(23,[])] else[])
end
def Na (N M n:Nat) (h:AH) (b:Nat) (F:WF):AV→AH→Prop:=fun v h'=>(v= .bool true∧∃ y,qy n h.n h b F y h'∧RI (N+1) M y)∨(v= .bool false∧Kp h h' (b::F.a))
def ecs (k1 k2:Int) (s:Span) (va:AV):List AV:=[.int .i64 k1,.int .i64 k2,.int .i64 s.trace,.int .i64 s.id,.int .i64 s.start,.int .i64 s.fin,.bool s.err,va]
theorem aep {h:AH} {n b N M:Nat} {x:Wld} {V:WV} {F:WF} {k1 k2:Int} {s:Span} {va:AV} {G:List Nat} (w:PW n h b x V F) (hR:RI N M x) (hN:N≤200) (hM:M≤2000) (hz:dz M s) (rs:ah h va s.attrs G) (hG:∀ c∈G,c < n) (hk: -1000000≤k2∧k2≤1000000):bq Tryz.prog KJ [.ptr b 0,.agg (ecs k1 k2 s va)] h (Na N M n h b F):=by
 have hI:=hR.wi
 have hfit:=hR.fit hN hM
 have hs:Sz.sz x≤33554432:=by omega
 have h5:=hI.tl
 have hw:=iw.1 hI.w
 have iD:=hI.now
 have alo:=hw.now
 have aln:=hR.xH (by omega)
 have hdl:=hR.dd
 have hol:=hR.od
 have alI:=hR.du
 have wh:=w
 obtain⟨v0,v1,v2,v3,v4,v5,v6,v7,v8,v9,v10⟩:=V
 refine aeK _ _ ?_
 unfold Sl
 refine tC rfl ?_
 have eH:Ext h (h.push ⟨ecs k1 k2 s va,0,0⟩):=(Ext.refl h).push _
 have bx:Bk (h.push ⟨ecs k1 k2 s va,0,0⟩) h.n [.int .i64 k1,.int .i64 k2,.int .i64 s.trace,.int .i64 s.id,.int .i64 s.start,.int .i64 s.fin,.bool s.err,va] 0:=gF
 have sH:=w.ws.ext eH
 have rsH:ah (h.push ⟨ecs k1 k2 s va,0,0⟩) va s.attrs G:=dU rs
 have nx:h.n ∉ b::F.a:=fun hm=>by
  rcases List.mem_cons.1 hm with q|q
  ·have:=w.bk.1;omega
  ·have:=w.own.2 _ q;omega
 have hbh:=w.bk.1
 have hlt:=w.own.2
 obtain⟨H,hH⟩:∃ H,H=h.push ⟨ecs k1 k2 s va,0,0⟩:=⟨_,rfl⟩
 have hHn:H.n=h.n+1:=by rw[hH];simp
 have en:(h.push ⟨ecs k1 k2 s va,0,0⟩).n=H.n:=by rw[hH]
 rw[←hH] at eH bx sH rsH ⊢
 clear hH en
 have w:=sH.w
 have bk:=bkE w
 have hb:=bk.1
 have no:∀ {g:AH},Kp H g (b::F.a)→Na N M n h b F (.bool false) g:=fun k=>.inr ⟨rfl,(Kp.gK eH).trans k⟩
 have yes:∀ {g:AH} {y:Wld},qy n h.n h b F y g→RI (N+1) M y→Na N M n h b F (.bool true) g:=fun W r=>.inl ⟨rfl,_,W,r⟩
 have r6:ah H v6 x.due F.f6:=w.r6
 have r7:ah H v7 x.queue F.f7:=w.r7
 have r3:ah H v3 x.w.near F.f3:=w.r3
 have r4:ah H v4 x.w.far F.f4:=w.r4
 have r5:ah H v5 x.w.rest F.f5:=w.r5
 by_cases c1:k1=1
 ·subst c1
  by_cases hk2:0≤k2∧k2≤2
  ·obtain⟨K,rfl⟩:∃ K:Nat,k2=K:=⟨k2.toNat,by omega⟩
   obtain⟨t,ht,-,-⟩:=aU (show K < x.tasks.length by omega)
   obtain⟨b9,o9,e9⟩:=w.r9.sl ht;have e9:v9= .sl b9 o9 x.tasks.length:=e9;subst e9;have l9:b9 < _:=iB w.r9
   have bk:=bkE w
   obtain⟨fZ,fV,jq,tQ,uq,ek,tO,tN,uw,og,um,uh,uj,uy,pX,mV⟩:=sH.iJ (bb:=b9) (off:=o9) ht rfl;have ek:EK Task _ _ _ b9 (o9+K * 12) [.int .i64 t.op,.int .i64 t.pc,.int .i64 t.s.trace,.int .i64 t.s.id,.int .i64 t.s.start,.int .i64 t.s.fin,.bool t.s.err,fZ,.int .i64 t.trace,.int .i64 t.stamp,fV,.int .i64 t.h] _ _ _ _:=ek
   have at9:=ek.at_
   by_cases h0:t.op=0
   ·(repeat' first|refine vsx ?_|refine bP ?_|(refine br ?_ ?_<;>first|exact bo|intro _)|((with_reducible refine aG dJ ?_);(refine dS (j5) ?_ ?_<;>intro hb<;>(first|replace hb:=fE hb|replace hb:=fG hb)))|fail)
    all_goals try(exfalso;omega)
    refine aL (aa9 (s:=s) w (by have:=w.nb;omega) (by omega) hz.2 (by omega) (by have:=hz.1;omega) rsH hG) ?_
    rintro _ h2 ⟨rfl,W⟩
    obtain⟨V2,F2,s2,-⟩:=sH.call W
    (repeat' first|refine vsw ?_|fail)
    exact⟨rfl,_,rfl,yes s2.done (hR.ajq (by omega) ht h0 (by omega) hz)⟩
   ·(repeat' first|refine vsw ?_|refine bP ?_|(refine br ?_ ?_<;>first|exact bo|intro _)|((with_reducible refine aG dJ ?_);(refine dS (j5) ?_ ?_<;>intro hb<;>(first|replace hb:=fE hb|replace hb:=fG hb)))|fail)
    all_goals try(exfalso;omega)
    all_goals exact⟨rfl,_,rfl,no (Kp.gK aI)⟩
  ·(repeat' first|refine vsw ?_|(with_reducible refine bA ?_)|(refine br ?_ ?_<;>first|exact bo|intro _)|((with_reducible refine aG dJ ?_);(refine dS (j5) ?_ ?_<;>intro hb<;>(first|replace hb:=fE hb|replace hb:=fG hb)))|fail)
   all_goals try(exfalso;omega)
   all_goals exact⟨rfl,_,rfl,no (Kp.gK aI)⟩
 by_cases c2:k1=2
 ·subst c2
  by_cases hk2:0≤k2∧k2≤4
  ·obtain⟨K,rfl⟩:∃ K:Nat,k2=K:=⟨k2.toNat,by omega⟩
   obtain⟨t,ht,-,-⟩:=aU (show K < x.tasks.length by omega)
   (repeat' first|refine vsx ?_|(refine br ?_ ?_<;>first|exact bo|intro _)|((with_reducible refine aG dJ ?_);(refine dS (j5) ?_ ?_<;>intro hb<;>(first|replace hb:=fE hb|replace hb:=fG hb)))|fail)
   all_goals try(exfalso;omega)
   refine aL (aeu w hI ht hs) ?_
   intro v2 h2 hst
   cases hL:qR x K t with
   |none=>
    rw[hL] at hst
    obtain⟨rfl,kk⟩:=hst
    (repeat' first|refine vsw ?_|fail)
    exact⟨rfl,_,rfl,no kk⟩
   |some y=>
    rw[hL] at hst
    obtain⟨rfl,W⟩:=hst
    obtain⟨V2,F2,s2,-⟩:=sH.call W
    (repeat' first|refine vsw ?_|fail)
    exact⟨rfl,_,rfl,yes s2.done (hR.ajW (by omega) ht hL)⟩
  ·(repeat' first|refine vsw ?_|(refine br ?_ ?_<;>first|exact bo|intro _)|((with_reducible refine aG dJ ?_);(refine dS (j5) ?_ ?_<;>intro hb<;>(first|replace hb:=fE hb|replace hb:=fG hb)))|fail)
   all_goals try(exfalso;omega)
   all_goals exact⟨rfl,_,rfl,no (Kp.gK aI)⟩
 by_cases c3:k1=3
 ·subst c3
  by_cases hk2:(1≤k2∧k2≤20)∧x.w.now+k2≤100000
  ·obtain⟨K,rfl⟩:∃ K:Nat,k2=K:=⟨k2.toNat,by omega⟩
   (repeat' first|refine vsx ?_|(with_reducible refine bA ?_)|(refine br ?_ ?_<;>first|exact bo|intro _)|((with_reducible refine aG dJ ?_);(refine dS (j5) ?_ ?_<;>intro hb<;>(first|replace hb:=fE hb|replace hb:=fG hb)))|fail)
   all_goals try(exfalso;omega)
   refine aL (acf (w:=x.w) hw (by omega) (by omega) aB aB aB) ?_
   rintro _ h2 ⟨e2,p0,p1,p2,y0,y1,y2,v,gv,rfl,t0,t1,t2,ot,rv,ov⟩
   have n2:=e2.1;(try simp only[aJ,aN] at n2)
   have al:=Ww hw K (by omega)
   have hb2:b < h2.n:=by omega
   (repeat' first|refine vsx ?_|(with_reducible refine bA ?_)|((with_reducible refine iN ?_);refine iM aO ?_)|fail)
   have otL:bU (H.n+1) h2 (y0++(y1++y2)):=⟨by simpa using ot,fun d hd=>by
    rcases List.mem_append.1 hd with q|q
    ·exact t0.lt d q
    rcases List.mem_append.1 q with q|q
    ·exact t1.lt d q
    ·exact t2.lt d q⟩
   have py:∀ d∈y0++(y1++y2),H.n+1≤d:=fun d hd=>(otL.1.2 d hd).1
   have op0:=fB otL.1;have op1:=fB (dI otL.1);have op2:=dI (dI otL.1)
   have ov1:Own (H.n+1) h2 gv:=by simpa using ov
   refine sH.Iq {x with w:=(dA x.w K).1} (aB:ah _ p0 (dA x.w K).1.near y0) (aB:ah _ p1 (dA x.w K).1.far y1) (aB:ah _ p2 (dA x.w K).1.rest y2) ((dM (dM otL fun hm=>by have:=py _ hm;omega) fun hm=>by have:=py _ hm;omega).1) (by omega) (fun x1 e1 s1=>?_)
   refine YT s1 (l:=(dA x.w K).2) (aB:ah _ v (dA x.w K).2 gv) (by rw[e1];show(x.due.length+_) * _≤_;omega) (by rw[e1];show x.due.length+_ < _;omega) ?_
   intro v' h6 k6 b6 cv6 fin
   have bk6:Bk h6 b [AV.int .i64 x1.c.dK,AV.int .i64 x1.c.wait,AV.int .i64 x1.c.budget,AV.int .i64 x1.c.cache,AV.int .i64 x1.c.queue,AV.int .i64 x1.c.rate,AV.int .i64 x1.c.aZ,AV.int .i64 x1.c.rule.kind,AV.int .i64 x1.c.rule.n,AV.str x1.c.rule.key,AV.str x1.c.rule.text,v0,AV.int .i64 x1.time,AV.bool x1.shut,v1,AV.int .i64 x1.bg,AV.int .i64 x1.b.rate,AV.int .i64 x1.b.aZ,AV.int .i64 x1.b.tokens,AV.int .i64 x1.b.at_,v2,AV.int .i64 x1.used,AV.int .i64 x1.w.now,p0,p1,p2,v6,v7,v8,v9,v10,AV.int .i64 x1.next] 0:=b6
   have hb6:=bk6.1
   (repeat' first|((with_reducible refine fC ?_);refine kE cv6 rfl (qO bk6 bV) ?_)|refine vsx ?_|(with_reducible refine bA ?_)|fail)
   refine fin (fun x7 F7 e7 s7 m7=>?_) (gG hb6) rfl gU
   have bk7:=bkE s7.w
   have hb7:=bk7.1
   clear bk6 b6 bk
   (repeat' first|(with_reducible refine gQ ?_)|refine vsx ?_|(with_reducible refine bA ?_)|fail)
   refine s7.jv (cB x7) (fun x8 e8 s8=>?_) jc (by rw[show x1.time=x7.time by rw[e7]];rfl)
   (repeat' first|refine vsw ?_|fail)
   have e:x8=Ad x K:=by rw[e8,e7,e1];rfl
   rw[e] at s8
   exact⟨rfl,_,rfl,yes s8.done (hR.Ad (by omega) (by omega))⟩
  ·(repeat' first|refine vsw ?_|(with_reducible refine bA ?_)|(refine br ?_ ?_<;>first|exact bo|intro _)|((with_reducible refine aG dJ ?_);(refine dS (j5) ?_ ?_<;>intro hb<;>(first|replace hb:=fE hb|replace hb:=fG hb)))|fail)
   all_goals try(exfalso;omega)
   all_goals exact⟨rfl,_,rfl,no (Kp.gK aI)⟩
 by_cases c4:k1=4
 ·subst c4
  cases hq:x.queue with
  |nil=>
   have hql:x.queue.length=0:=by rw[hq];rfl
   (repeat' first|refine vsw ?_|(with_reducible refine bA ?_)|(refine br ?_ ?_<;>first|exact bo|intro _)|fail)
   all_goals try(exfalso;omega)
   all_goals exact⟨rfl,_,rfl,no (Kp.gK aI)⟩
  |cons y ys=>
   rw[hq] at r7
   obtain⟨bh,oh,cy,Gy,Gs,rfl,eF,ay,ry,rys,hes,hst,hroom⟩:=TS r7 w.o7
   obtain⟨vy,rfl,rvy⟩:=ry
   have hlq:x.queue.length=ys.length+1:=by rw[hq];rfl
   have hcl:(y::ys).length=ys.length+1:=rfl
   have hyl:ys.length≤4:=by have:=hI.ql;have:=hI.conf.2.2.2.2.1;omega
   (repeat' first|refine vsx ?_|refine bP ?_|(refine br ?_ ?_<;>first|exact bo|intro _)|fail)
   all_goals try(exfalso;omega)
   have nbn:n≤H.n:=by have:=w.nb;omega
   have d78:∀ c∈F.f7,c ∉ F.f8:=fun c=>w.sep.dis 7 8 _ _ (by decide) rfl rfl c
   have lt7:∀ c∈F.f7,c < H.n:=fun c hc=>sH.lt c (F.in7 c hc)
   have lt8:∀ c∈F.f8,c < H.n:=fun c hc=>sH.lt c (F.in8 c hc)
   have mGy:∀ c∈Gy,c∈F.f7:=fun c hc=>by rw[eF];exact List.mem_cons_of_mem _ (List.mem_append_left _ hc)
   have mGs:∀ c∈Gs,c∈F.f7:=fun c hc=>by rw[eF];exact List.mem_cons_of_mem _ (List.mem_append_right _ hc)
   have mbh:bh∈F.f7:=by rw[eF];exact List.mem_cons_self
   have o7:Own n H ([bh]++(Gy++Gs)):=by have:=w.o7;rw[eF] at this;exact this
   have oyz:=dI o7
   have nbh:bh≠b:=fun e=>w.n7 (e▸mbh)
   have ak3:=lt7 bh mbh
   have r8:ah H v8 x.out F.f8:=w.r8
   refine iC (n:=n) (bytes:=72) r8 (⟨vy,rfl,rvy⟩:Cel.rep H y (y.cs vy) Gy) (iK w.o8 (fB oyz) (Nat.le_refl _) fun c hc hm=>d78 c (mGy c hm) hc) nbn rfl (by omega) (by omega) ?_
   intro v' h1 f _ k1 q8 o8 m8
   have n1:=k1.1
   have bk1:Bk h1 b [AV.int .i64 x.c.dK,AV.int .i64 x.c.wait,AV.int .i64 x.c.budget,AV.int .i64 x.c.cache,AV.int .i64 x.c.queue,AV.int .i64 x.c.rate,AV.int .i64 x.c.aZ,AV.int .i64 x.c.rule.kind,AV.int .i64 x.c.rule.n,AV.str x.c.rule.key,AV.str x.c.rule.text,v0,AV.int .i64 x.time,AV.bool x.shut,v1,AV.int .i64 x.bg,AV.int .i64 x.b.rate,AV.int .i64 x.b.aZ,AV.int .i64 x.b.tokens,AV.int .i64 x.b.at_,v2,AV.int .i64 x.used,AV.int .i64 x.w.now,v3,v4,v5,v6,(AV.sl bh oh (ys.length+1)),v8,v9,v10,AV.int .i64 x.next] 0:=bI k1 bk w.n8
   have hb1:=bk1.1
   have Dv:h1.get bh=H.get bh:=k1.2 bh ak3 fun hm=>d78 bh mbh hm
   have Nl:ah h1 (.sl bh (oh+1 * 7) (ys.length+1 - 1)) ys (bh::Gs):=aK k1 rys fun c hc hm=>d78 c (by
    rcases List.mem_cons.1 hc with e|e
    ·rw[e];exact mbh
    ·exact mGs c e) hm
   have cv':=q8.cell
   clear bk
   (repeat' first|refine vsx ?_|(with_reducible refine bA ?_)|fail)
   have gH:∀ B:Blk,((h1.upd b B).push ⟨[],7,0⟩).get bh=H.get bh:=fun B=>by
    have:bh≠h1.n:=by omega
    simp[this,nbh,Dv]
   refine Gx (i:=1) (by decide) (by rw[gH];exact hes) (by unfold mine;rw[gH];exact hst) (by rw[gH];exact hroom) (by omega) ?_
   have bGs:b ∉ bh::Gs:=fun hm=>by
    rcases List.mem_cons.1 hm with e|e
    ·exact nbh e.symm
    ·exact w.n7 (mGs b e)
   have Ns:bU n h1 Gs:=bX k1 ⟨dI oyz,fun c hc=>lt7 c (mGs c hc)⟩ fun c hc hm=>d78 c (mGs c hc) hm
   refine X0 (n:=n) (dH Nl bGs) (dM Ns fun hm=>w.n7 (mGs b hm)).1 (by simp only[aN];omega) rfl (by omega) ?_
   intro u' h3 H1 e3 r3 o3 m3
   have m3:∀ c∈H1,c∈Gs∨h1.n≤c:=fun c hc=>by have:=m3 c hc;simpa using this
   have n3:=e3.1;simp only[aN] at n3
   have bk3:Bk h3 b [AV.int .i64 x.c.dK,AV.int .i64 x.c.wait,AV.int .i64 x.c.budget,AV.int .i64 x.c.cache,AV.int .i64 x.c.queue,AV.int .i64 x.c.rate,AV.int .i64 x.c.aZ,AV.int .i64 x.c.rule.kind,AV.int .i64 x.c.rule.n,AV.str x.c.rule.key,AV.str x.c.rule.text,v0,AV.int .i64 x.time,AV.bool x.shut,v1,AV.int .i64 x.bg,AV.int .i64 x.b.rate,AV.int .i64 x.b.aZ,AV.int .i64 x.b.tokens,AV.int .i64 x.b.at_,v2,AV.int .i64 x.used,AV.int .i64 x.w.now,v3,v4,v5,v6,(AV.sl bh oh (ys.length+1)),v',v9,v10,AV.int .i64 x.next] 0:=fq e3 (gG hb1)
   have hb3:=bk3.1
   (repeat' first|refine vsx ?_|(with_reducible refine bA ?_)|fail)
   have bf:b ∉ f:=fun hm=>by
    rcases m8 b hm with q|q|q
    ·exact w.n8 q
    ·exact w.n7 (mGy b q)
    ·omega
   have bH1:b ∉ H1:=fun hm=>by
    rcases m3 b hm with q|q
    ·exact w.n7 (mGs b q)
    ·omega
   have K:Kp H (h3.upd b ⟨[AV.int .i64 x.c.dK,AV.int .i64 x.c.wait,AV.int .i64 x.c.budget,AV.int .i64 x.c.cache,AV.int .i64 x.c.queue,AV.int .i64 x.c.rate,AV.int .i64 x.c.aZ,AV.int .i64 x.c.rule.kind,AV.int .i64 x.c.rule.n,AV.str x.c.rule.key,AV.str x.c.rule.text,v0,AV.int .i64 x.time,AV.bool x.shut,v1,AV.int .i64 x.bg,AV.int .i64 x.b.rate,AV.int .i64 x.b.aZ,AV.int .i64 x.b.tokens,AV.int .i64 x.b.at_,v2,AV.int .i64 x.used,AV.int .i64 x.w.now,v3,v4,v5,v6,u',v',v9,v10,AV.int .i64 x.next],0,0⟩) (b::(F.f7++F.f8)):=(((k1.mono fun c hc=>List.mem_cons_of_mem _ (List.mem_append_right _ hc)).trans ((gU (b:=b)).mono fun c hc=>by rw[List.mem_singleton.1 hc];exact List.mem_cons_self)).trans (Kp.gK e3)).trans ((gU (b:=b)).mono fun c hc=>by rw[List.mem_singleton.1 hc];exact List.mem_cons_self)
   have nd:=List.nodup_append.1 oyz.1
   have w4:PW n (h3.upd b ⟨[AV.int .i64 x.c.dK,AV.int .i64 x.c.wait,AV.int .i64 x.c.budget,AV.int .i64 x.c.cache,AV.int .i64 x.c.queue,AV.int .i64 x.c.rate,AV.int .i64 x.c.aZ,AV.int .i64 x.c.rule.kind,AV.int .i64 x.c.rule.n,AV.str x.c.rule.key,AV.str x.c.rule.text,v0,AV.int .i64 x.time,AV.bool x.shut,v1,AV.int .i64 x.bg,AV.int .i64 x.b.rate,AV.int .i64 x.b.aZ,AV.int .i64 x.b.tokens,AV.int .i64 x.b.at_,v2,AV.int .i64 x.used,AV.int .i64 x.w.now,v3,v4,v5,v6,u',v',v9,v10,AV.int .i64 x.next],0,0⟩) b {x with queue:=ys,out:=x.out++[y]} ⟨v0,v1,v2,v3,v4,v5,v6,u',v',v9,v10⟩ {F with f7:=H1,f8:=f}:=ajT w (x':={x with queue:=ys,out:=x.out++[y]}) (v7:=u') (v8:=v') (gG hb3) K (dH r3 bH1) (dH (iG e3 (dH q8 bf)) bf) (dM ⟨o3,r3.lt⟩ bH1).1 (dM (jk e3 (dM ⟨o8,q8.lt⟩ bf)) bf).1 bH1 bf (fun c hc hm=>by
    rcases m3 c hc with q|q
    ·rcases m8 c hm with r|r|r
     ·exact d78 c (mGs c q) r
     ·exact nd.2.2 c r c q rfl
     ·have:=lt7 c (mGs c q);omega
    ·have:=q8.lt c hm;omega) (fun c hc=>by
    rcases m3 c hc with q|q
    ·exact .inl (mGs c q)
    ·exact .inr (.inr fun hm=>by have:=sH.lt c hm;omega)) (fun c hc=>by
    rcases m8 c hc with q|q|q
    ·exact .inr (.inl q)
    ·exact .inl (mGy c q)
    ·exact .inr (.inr fun hm=>by have:=sH.lt c hm;omega))
   have s4:=sH.to w4 (K.mono fun c hc=>by
    rcases List.mem_cons.1 hc with q|q
    ·rw[q];exact List.mem_cons_self
    rcases List.mem_append.1 q with q|q
    ·exact List.mem_cons_of_mem _ (F.in7 c q)
    ·exact List.mem_cons_of_mem _ (F.in8 c q)) (fun c hc=>by
    rcases ahq hc with q|q|q
    ·rcases m3 c q with r|r
     ·exact .inl (F.in7 c (mGs c r))
     ·exact .inr (by omega)
    ·rcases m8 c q with r|r|r
     ·exact .inl (F.in8 c r)
     ·exact .inl (F.in7 c (mGy c r))
     ·exact .inr (by omega)
    ·exact .inl q)
   obtain⟨x4,hx4,s4⟩:=s4.gen
   have bk4:=bkE s4.w
   have hb4:=bk4.1
   clear bk1 bk3
   (repeat' first|(with_reducible refine gQ ?_)|refine vsx ?_|(with_reducible refine bA ?_)|fail)
   refine s4.jv (cB x4) (fun x5 e5 s5=>?_) jc (by rw[show x.time=x4.time by rw[hx4]];rfl)
   (repeat' first|refine vsw ?_|fail)
   have e:pO x=some x5:=by rw[e5,hx4];unfold pO;rw[hq]
   exact⟨rfl,_,rfl,yes s5.done (hR.pO (by omega) e)⟩
 by_cases c5:k1=5
 ·subst c5
  by_cases hsh:x.shut=true
  ·rw[hsh] at bk
   (repeat' first|refine vsw ?_|(with_reducible refine bA ?_)|(refine br ?_ ?_<;>first|exact bo|intro _)|fail)
   all_goals try(exfalso;omega)
   all_goals exact⟨rfl,_,rfl,no (Kp.gK aI)⟩
  ·have hsh:x.shut=false:=by simpa using hsh
   rw[hsh] at bk
   (repeat' first|refine vsx ?_|(with_reducible refine bA ?_)|(refine br ?_ ?_<;>first|exact bo|intro _)|fail)
   have n3:=w.n3;have n4:=w.n4;have n5:=w.n5
   have hsz:=BP hw
   have alE:=hw.len
   refine sH.jv {x with shut:=true} (fun x1 e1 s1=>?_)
   refine aL (Fp (w:=x.w) (by omega) (aB:ah _ v3 x.w.near F.f3) (aB:ah _ v4 x.w.far F.f4) (aB:ah _ v5 x.w.rest F.f5)) ?_
   rintro ud h2 ⟨e2,Gt,rt,ot⟩
   have s1:=s1.ext e2
   have bk1:=bkE s1.w
   clear bk
   (repeat' first|refine vsx ?_|fail)
   refine YT s1 (l:=timers x.w) rt (by rw[e1];show(x.due.length+_) * _≤_;omega) (by rw[e1];show x.due.length+_ < _;omega) ?_
   intro v' h6 k6 b6 cv6 fin
   have bk6:Bk h6 b [AV.int .i64 x1.c.dK,AV.int .i64 x1.c.wait,AV.int .i64 x1.c.budget,AV.int .i64 x1.c.cache,AV.int .i64 x1.c.queue,AV.int .i64 x1.c.rate,AV.int .i64 x1.c.aZ,AV.int .i64 x1.c.rule.kind,AV.int .i64 x1.c.rule.n,AV.str x1.c.rule.key,AV.str x1.c.rule.text,v0,AV.int .i64 x1.time,AV.bool x1.shut,v1,AV.int .i64 x1.bg,AV.int .i64 x1.b.rate,AV.int .i64 x1.b.aZ,AV.int .i64 x1.b.tokens,AV.int .i64 x1.b.at_,v2,AV.int .i64 x1.used,AV.int .i64 x1.w.now,v3,v4,v5,v6,v7,v8,v9,v10,AV.int .i64 x1.next] 0:=b6
   have hb6:=bk6.1
   (repeat' first|((with_reducible refine fC ?_);refine kE cv6 rfl (qO bk6 bV) ?_)|refine vsx ?_|(with_reducible refine bA ?_)|fail)
   refine fin (fun x7 F7 e7 s7 m7=>?_) (gG hb6) rfl gU
   refine aL OX ?_
   rintro _ h8 ⟨e8,_,_,rfl,⟨c0,c1,c2,p0,p1,p2,rfl,rfl,q0,q1,q2⟩,o8⟩
   have n8:=e8.1;(try simp only[aJ,aN] at n8)
   have s8:=s7.ext e8
   have bk8:=bkE s8.w
   have hb8:=bk8.1
   have o8:Own h6.n h8 (p0++(p1++p2)):=by simpa using o8
   have o8L:bU h6.n h8 (p0++(p1++p2)):=⟨o8,fun d hd=>by
    rcases List.mem_append.1 hd with q|q
    ·exact q0.lt d q
    rcases List.mem_append.1 q with q|q
    ·exact q1.lt d q
    ·exact q2.lt d q⟩
   clear bk1 b6 bk6
   (repeat' first|refine vsy ?_|(with_reducible refine bA ?_)|fail)
   have hdp:∀ d∈p0++(p1++p2),h6.n≤d:=fun d hd=>(o8.2 d hd).1
   have hx0:b ∉ p0:=fun hm=>by have:=hdp b (List.mem_append_left _ hm);omega
   have hx1:b ∉ p1:=fun hm=>by have:=hdp b (List.mem_append_right _ (List.mem_append_left _ hm));omega
   have hx2:b ∉ p2:=fun hm=>by have:=hdp b (List.mem_append_right _ (List.mem_append_right _ hm));omega
   refine s7.Iq {x7 with w:=nC x.w.now} (aB:ah _ c0 (nC x.w.now).near p0) (aB:ah _ c1 (nC x.w.now).far p1) (aB:ah _ c2 (nC x.w.now).rest p2) ((gy (dM o8L fun hm=>by have:=hdp b hm;omega)).1) (by simp) (fun x9 e9 s9=>?_)
   (repeat' first|refine vsx ?_|fail)
   have hd9:x9.aF.length≤200:=by rw[e9,e7,e1];show x.aF.length≤200;omega
   refine s9.xQ (a:=⟨4,0,iA,0,0,0,false,false,0,0,0,x.w.now,x7.time,x7.time,x7.time⟩) (G:=[]) (q:=H.n) ⟨.aA,rfl,ah.aA⟩ Own.nil ⟨by have:=w.nb;omega,by omega⟩ (by simp) (by omega) (by omega) ?_
   intro v9' h10 k10 b10 alc M4
   have NK:Bk h10 b [AV.int .i64 x9.c.dK,AV.int .i64 x9.c.wait,AV.int .i64 x9.c.budget,AV.int .i64 x9.c.cache,AV.int .i64 x9.c.queue,AV.int .i64 x9.c.rate,AV.int .i64 x9.c.aZ,AV.int .i64 x9.c.rule.kind,AV.int .i64 x9.c.rule.n,AV.str x9.c.rule.key,AV.str x9.c.rule.text,v0,AV.int .i64 x9.time,AV.bool x9.shut,v1,AV.int .i64 x9.bg,AV.int .i64 x9.b.rate,AV.int .i64 x9.b.aZ,AV.int .i64 x9.b.tokens,AV.int .i64 x9.b.at_,v2,AV.int .i64 x9.used,AV.int .i64 x9.w.now,c0,c1,c2,v',v7,v8,v9,v10,AV.int .i64 x9.next] 0:=b10
   have I9:=NK.1
   clear bk8
   (repeat' first|((with_reducible refine fC ?_);refine kE alc rfl (qO NK bV) ?_)|refine vsx ?_|(with_reducible refine bA ?_)|fail)
   refine M4 (fun x11 F11 e11 s11 m11=>?_) (gG I9) rfl gU
   have alf:=bkE s11.w
   have alQ:=alf.1
   clear NK b10
   (repeat' first|(with_reducible refine gQ ?_)|refine vsx ?_|(with_reducible refine bA ?_)|fail)
   refine s11.jv (cB x11) (fun x12 e12 s12=>?_) jc (by rw[show x9.time=x11.time by rw[e11]];rfl)
   (repeat' first|refine vsw ?_|fail)
   have e:nO x=some x12:=by
    have t7:x7.time=x.time:=by rw[e7,e1]
    unfold nO
    rw[if_neg (by rw[hsh];decide),e12,e11,t7,e9,e7,e1];rfl
   exact⟨rfl,_,rfl,yes s12.done (hR.nO (by omega) e)⟩
 (repeat' first|refine vsw ?_|(refine br ?_ ?_<;>first|exact bo|intro _)|fail)
 all_goals try(exfalso;omega)
 all_goals exact⟨rfl,_,rfl,no (Kp.gK aI)⟩
end Go.Proofs.YtcgjihfngdhjjaaGreat
