import Derived.Test.YtekfdoknfcedpaaGreatDW98
set_option linter.unusedSimpArgs false
set_option linter.unusedVariables false
set_option maxHeartbeats 4000000
set_option maxRecDepth 20000
namespace Go.Proofs.YtekfdoknfcedpaaGreat
open Go Go.Ab Go.RowKit
attribute[local irreducible] dI
section
def Od (x0 x1:AV):Prog:=.op (.box x0) fun a=>.op (.alloc j6) fun b=>Ld 32 a fun c=>Cl Ca [c] fun c=>.op (.alloc j6) fun d=>.op (.st 32 d c) fun _=>Ld 32 a fun c=>Cl vQ [c] fun c=>.op (.una .not c) fun c=>.gop c false (.mv x1) fun e=>.gop c false (.call bA [e,.int .i64 0,.int .i64 4]) fun e=>.gop c false (.una .not e) fun e=>Pk c (.bool true) e fun c=>Gf c false 29 a fun e=>.gop c false (.mv x1) fun f=>.gop c false (.idx 12 e f) fun e=>Gf c false 0 e fun e=>.gop c false (.bin 0 .neq e (.int .i64 1)) fun e=>Pk c (.bool true) e fun c=>.ite c (Ld 32 d fun a=>.op (.st 32 b a) fun _=>.fin [.cn 32 b,.val (.bool false)]) (Lg 29 d fun c=>Ix 12 c x1 fun c=>Lf 1 c fun e=>Bn .eql e (.int .i64 0) fun f=>.scope (.ite f (.op (.bO c) fun a=>.op (.fad 2 a) fun a=>Lg 0 a fun a=>Cl Bz [d,x1,a] fun a=>Sf 1 c (.int .i64 1) fun _=>.leaf 0 [a]) (Bn .eql e (.int .i64 1) fun a=>.scope (.ite a (Cl JR [d,x1] fun a=>.leaf 0 [a]) (Bn .eql e (.int .i64 2) fun a=>.scope (.ite a (Lg 14 d fun a=>Cl I6 [a] fun a=>.op (.ext a 0) fun b=>.op (.ext a 1) fun a=>.op (.alloc [.int .i64 0,.int .i64 0,.int .i64 0,.au]) fun e=>.op (.st 4 e b) fun _=>Sf 1 c (.int .i64 0) fun _=>.scope (.ite a (Lg 0 e fun a=>Cl Bz [d,x1,a] fun a=>.op (.fad 0 e) fun b=>.op (.ld1 b) fun d=>.op (.fad 1 e) fun e=>.op (.ld1 e) fun f=>Sf 1 c (.int .i64 3) fun _=>.chk (.ld1 b) d (.chk (.ld1 e) f (Sf 8 c d fun _=>.chk (.ld1 e) f (Sf 9 c f fun _=>.leaf 0 [a])))) (.leaf 0 [.bool true])) (fun a=>.leaf 0 [g a 0]) fun a b=>ak a 1 (.leaf 1 b) .bad) (Cl IZ [d,x1] fun _=>.leaf 0 [.bool true])) (fun a=>.leaf 0 [g a 0]) fun a b=>ak a 1 (.leaf 1 b) .bad)) (fun a=>.leaf 0 [g a 0]) fun a b=>ak a 1 (.leaf 1 b) .bad)) (fun c=>.op (.una .not (g c 0)) fun c=>.ite c (Ld 32 a fun a=>Cl Ca [a] fun a=>.op (.st 32 b a) fun _=>.fin [.cn 32 b,.val (.bool false)]) (Lg 12 d fun a=>Bn .add a (.int .i64 1) fun a=>Sg 12 d a fun _=>Ld 32 d fun a=>.op (.st 32 b a) fun _=>.fin [.cn 32 b,.val (.bool true)])) fun a b=>ak a 1 (.leaf 1 b) .bad)
theorem ac1 (x0 x1:AV):CC Tryz.prog Cg [x0,x1] (Od x0 x1):=cc Tryz.func14 [2,4,6,8] (fun r=>if r=18 then[(0,[]),(1,[]),(2,[]),(3,[]),(4,[]),(5,[]),(6,[]),(7,[]),(8,[]),(9,[4,6]),(10,[]),(11,[]),(12,[6]),(13,[]),(14,[]),(15,[])] else[])
end
theorem Nq {h:AH} {x:Wld} {cs:List AV} {F:List Nat} {k:Int} (ok:Cel.ok x) (hs:Sz.sz x≤33554432) (r:Cel.rep h x cs F):bE Tryz.prog Cg [.agg cs,.int .i64 k] h (uV h (nN x k).1 (nN x k).2):=by
 have hs0:Sz.sz x≤67108864:=by omega
 have hs1:=hs
 have hs:=hs0
 have r0':=r
 obtain⟨v0,v1,v2,v3,v4,v5,v6,v7,v8,v9,v10,F0,F1,F2,F3,F4,F5,F6,F7,F8,F9,F10,rfl,rfl,r0,r1,r2,r3,r4,r5,r6,r7,r8,r9,r10⟩:=r
 have hs:Sz.sz x.c+(x.st.length+szs x.st)+(x.cache.length+szs x.cache)+Sz.sz x.w+(x.due.length+szs x.due)+(x.queue.length+szs x.queue)+(x.out.length+szs x.out)+(x.tasks.length+szs x.tasks)+(x.aI.length+szs x.aI)≤67108864:=hs
 have hl1:=r1.small
 have hl9:=r9.small
 refine ac1 _ _ ?_
 unfold Od
 refine prolog (BG x hs0) r0' ?_
 intro H B V G e nB hB bx bz w
 have bB:Bk H B [AV.int .i64 x.c.cB,AV.int .i64 x.c.wait,AV.int .i64 x.c.budget,AV.int .i64 x.c.cache,AV.int .i64 x.c.queue,AV.int .i64 x.c.rate,AV.int .i64 x.c.aV,AV.int .i64 x.c.rule.kind,AV.int .i64 x.c.rule.n,AV.str x.c.rule.key,AV.str x.c.rule.text,V.v0,AV.int .i64 x.time,AV.bool x.shut,V.v1,AV.int .i64 x.bQ,AV.int .i64 x.b.rate,AV.int .i64 x.b.aV,AV.int .i64 x.b.tokens,AV.int .i64 x.b.at_,V.v2,AV.int .i64 x.used,AV.int .i64 x.w.now,V.v3,V.v4,V.v5,V.v6,V.v7,V.v8,V.v9,V.v10,AV.int .i64 x.next] 0:=w.bk
 by_cases hw:qR x∧(0≤k∧k≤4)
 ·have h5:=hw.1.2.1
  obtain⟨t,ht,-,-⟩:=aQ (show k.toNat < x.tasks.length by omega)
  obtain⟨k',rfl⟩:∃ k':Nat,k=k':=⟨k.toNat,by omega⟩
  simp only[Int.toNat_natCast] at ht
  have hI:=Sj.1 hw.1
  by_cases hg:t.op=1
  ·have hk3:=(task1 hI ht hg).2.1
   rw[Km ⟨hw.1,⟨by omega,by omega⟩,t,ht,hg⟩ ht]
   obtain⟨d,hd,-,-⟩:=hI.own ht (by omega)
   have htk:=(hI.tasks k' t ht).1.1
   have h1:=hI.n1
   (repeat' first|refine vs ?_|(refine br ?_ ?_<;>first|exact bo|intro _)|((with_reducible refine ay vQ ?_);(refine aU (Jc (x:=x) ok hs0 ⟨_,_,_,_,_,_,_,_,_,_,_,_,_,_,_,_,_,_,_,_,_,_,rfl,rfl,ah,ah,ah,ah,ah,ah,ah,ah,ah,ah,ah⟩) ?_ ?_<;>intro hn))|((with_reducible refine ay bA ?_);(refine cZ (gF) ?_ ?_<;>intro hb<;>(first|replace hb:=dD hb|replace hb:=dH hb)))|((with_reducible refine aP ?_);((refine ix ?_);rintro _ _ _ _ _ ⟨_,_,_,_,rfl,rfl,_,_⟩ _))|fail)
   all_goals try(exfalso;first|omega|exact absurd hw.1 (by assumption))
   obtain⟨y0,y1,y2,y3,y4,y5,y6,y7,y8,y9,y10⟩:=V
   obtain⟨b9,o9,e9⟩:=w.r9.sl ht
   have e9:y9= .sl b9 o9 x.tasks.length:=e9
   subst e9
   have l9:b9 < _:=fO w.r9
   have bB:Bk H B [AV.int .i64 x.c.cB,AV.int .i64 x.c.wait,AV.int .i64 x.c.budget,AV.int .i64 x.c.cache,AV.int .i64 x.c.queue,AV.int .i64 x.c.rate,AV.int .i64 x.c.aV,AV.int .i64 x.c.rule.kind,AV.int .i64 x.c.rule.n,AV.str x.c.rule.key,AV.str x.c.rule.text,y0,AV.int .i64 x.time,AV.bool x.shut,y1,AV.int .i64 x.bQ,AV.int .i64 x.b.rate,AV.int .i64 x.b.aV,AV.int .i64 x.b.tokens,AV.int .i64 x.b.at_,y2,AV.int .i64 x.used,AV.int .i64 x.w.now,y3,y4,y5,y6,y7,y8,(AV.sl b9 o9 x.tasks.length),y10,AV.int .i64 x.next] 0:=w.bk
   have hbB:=bB.1
   have hkk:k' < x.tasks.length:=by omega
   have s:=w.ws
   obtain⟨fJ,fP,dW,nV,oz,ek,nU,nT,oC,jV,oq,oh,om,mY,mM,jq⟩:=s.fH (bb:=b9) (off:=o9) ht rfl;have ek:EK Task _ _ _ b9 (o9+k' * 12) [.int .i64 t.op,.int .i64 t.pc,.int .i64 t.s.trace,.int .i64 t.s.id,.int .i64 t.s.start,.int .i64 t.s.fin,.bool t.s.err,fJ,.int .i64 t.trace,.int .i64 t.stamp,fP,.int .i64 t.h] _ _ _ _:=ek
   have at9:=ek.at_
   have hBo:∀ c∈B::G.a,h.n+1+1≤c:=fun c hc=>by
    rcases List.mem_cons.1 hc with q|q
    ·omega
    ·exact(w.own.1.2 c q).1
   have nx:h.n ∉ B::G.a:=fun hm=>by have:=hBo _ hm;omega
   have nz:h.n+1 ∉ B::G.a:=fun hm=>by have:=hBo _ hm;omega
   have hcs:t.pc=0∨t.pc=1∨t.pc=2∨t.pc=3:=by have:=htk.2.1;omega
   rcases hcs with hp|hp|hp|hp
   ·have eS:gJ x k' t=if iK x t.s.trace≠-1 then none else some {x with st:=gU x.st t.s.trace k',tasks:=x.tasks.set k' {t with pc:=1}}:=by unfold gJ;rw[if_pos hp]
    rw[eS]
    (repeat' first|refine vsx ?_|(with_reducible refine aS ?_)|((with_reducible refine aP ?_);refine bN (by omega) ?_)|(refine br ?_ ?_<;>first|exact bo|intro _)|fail)
    all_goals try(exfalso;omega)
    refine aG (M8 (tr:=t.s.trace) w h1) ?_
    rintro v2 h2 ⟨hy,hn⟩
    by_cases hf:iK x t.s.trace= -1
    ·rw[if_neg (by omega)]
     obtain⟨rfl,W⟩:=hy hf
     obtain⟨V2,F2,s2,e2v,-,kk,-,-⟩:=rQ s W
     obtain⟨x2,hx2,s2⟩:=s2.gen
     obtain⟨y0,y1,y2,y3,y4,y5,y6,y7,y8,y9,y10⟩:=V2
     have e2v:y9= .sl b9 o9 x.tasks.length:=e2v
     subst e2v
     have ht2:x2.tasks[k']? =some t:=by rw[hx2];exact ht
     obtain⟨eO,eG,jL,jK,jS,et,jJ,jI,jT,jP,jR,jO,jQ,jU,iU,fB⟩:=s2.fH (bb:=b9) (off:=o9) ht2 rfl;have et:EK Task _ _ _ b9 (o9+k' * 12) [.int .i64 t.op,.int .i64 t.pc,.int .i64 t.s.trace,.int .i64 t.s.id,.int .i64 t.s.start,.int .i64 t.s.fin,.bool t.s.err,eO,.int .i64 t.trace,.int .i64 t.stamp,eG,.int .i64 t.h] _ _ _ _:=et
     have bB2:Bk h2 B [AV.int .i64 x2.c.cB,AV.int .i64 x2.c.wait,AV.int .i64 x2.c.budget,AV.int .i64 x2.c.cache,AV.int .i64 x2.c.queue,AV.int .i64 x2.c.rate,AV.int .i64 x2.c.aV,AV.int .i64 x2.c.rule.kind,AV.int .i64 x2.c.rule.n,AV.str x2.c.rule.key,AV.str x2.c.rule.text,y0,AV.int .i64 x2.time,AV.bool x2.shut,y1,AV.int .i64 x2.bQ,AV.int .i64 x2.b.rate,AV.int .i64 x2.b.aV,AV.int .i64 x2.b.tokens,AV.int .i64 x2.b.at_,y2,AV.int .i64 x2.used,AV.int .i64 x2.w.now,y3,y4,y5,y6,y7,y8,(AV.sl b9 o9 x.tasks.length),y10,AV.int .i64 x2.next] 0:=s2.w.bk
     have bz2:=bJ kk bz nz
     (repeat' first|((with_reducible refine dQ ?_);refine EK.st_ (et.ext aA) (by rfl) (by rfl) bP ?_;intro h_ et k_ n_)|refine vsx ?_|(with_reducible refine aS ?_)|((with_reducible refine bF ?_);simp only[g0,g1,g2]))
     obtain⟨x3,F3,e3,s3,m3⟩:=fB _ {t with pc:=1} rfl rfl et
     subst e3
     subst hx2
     have hb_:=s3.w.bk.1
     refine fK ?_
     have s4:=s3.put (x':=kE ({x with st:=gU x.st t.s.trace k',tasks:=x.tasks.set k' {t with pc:=1}})) (h':=AH.upd h_ B ⟨_,0,0⟩) (iL hb_) kr
     (repeat' first|refine vsw ?_|fail)
     exact Aj w bz e (by omega) s4
    ·rw[if_pos (by omega)]
     obtain⟨rfl,e2⟩:=hn hf
     (repeat' first|((with_reducible refine dQ ?_);refine EK.st_ (ek.ext aA) (by rfl) (by rfl) bP ?_;intro h_ ek k_ n_)|refine vsx ?_|(with_reducible refine aS ?_)|((with_reducible refine bF ?_);simp only[g0,g1,g2]))
     obtain⟨x3,F3,e3,s3,m3⟩:=jq _ {t with pc:=1} rfl rfl ek
     exact xJ w bz rfl e (by omega) s3.mv.kp (BG x hs0) r0'
   ·have eS:gJ x k' t=lookW x k' t:=by unfold gJ;rw[if_neg (by omega),if_pos hp]
    rw[eS]
    (repeat' first|refine vsx ?_|(with_reducible refine aS ?_)|((with_reducible refine aP ?_);refine bN (by omega) ?_)|(refine br ?_ ?_<;>first|exact bo|intro _)|fail)
    all_goals try(exfalso;omega)
    refine aG (ah8 (t:=t) (d:=d) w ht hd htk.1 h1 hs1) ?_
    intro v2 h2 hst
    rw[ak7 hI ht hg hp] at hst
    cases hL:lookW x k' t with
    |none=>
     rw[hL] at hst
     obtain⟨rfl,kk⟩:=hst
     have bx2:=bJ kk bx nx
     (repeat' first|refine vsx ?_|((with_reducible refine bF ?_);simp only[g0,g1,g2]))
     exact xJ w bz rfl e (by omega) kk (BG x hs0) r0'
    |some z=>
     rw[hL] at hst
     obtain⟨rfl,W⟩:=hst
     obtain⟨V2,F2,s2,kk,-⟩:=s.call W
     obtain⟨y0,y1,y2,y3,y4,y5,y6,y7,y8,y9,y10⟩:=V2
     have bB2:Bk h2 B [AV.int .i64 z.c.cB,AV.int .i64 z.c.wait,AV.int .i64 z.c.budget,AV.int .i64 z.c.cache,AV.int .i64 z.c.queue,AV.int .i64 z.c.rate,AV.int .i64 z.c.aV,AV.int .i64 z.c.rule.kind,AV.int .i64 z.c.rule.n,AV.str z.c.rule.key,AV.str z.c.rule.text,y0,AV.int .i64 z.time,AV.bool z.shut,y1,AV.int .i64 z.bQ,AV.int .i64 z.b.rate,AV.int .i64 z.b.aV,AV.int .i64 z.b.tokens,AV.int .i64 z.b.at_,y2,AV.int .i64 z.used,AV.int .i64 z.w.now,y3,y4,y5,y6,y7,y8,y9,y10,AV.int .i64 z.next] 0:=s2.w.bk
     have bz2:=bJ kk bz nz
     (repeat' first|refine vsx ?_|((with_reducible refine bF ?_);simp only[g0,g1,g2]))
     have hb_:=s2.w.bk.1
     refine fK ?_
     have s4:=s2.put (x':=kE (z)) (h':=AH.upd h2 B ⟨_,0,0⟩) (iL hb_) kr
     (repeat' first|refine vsw ?_|fail)
     exact Aj w bz e (by omega) s4
   ·have eS:gJ x k' t=nQ x k' t:=by unfold gJ;rw[if_neg (by omega),if_neg (by omega),if_pos hp]
    rw[eS]
    have r1H:aj H y1 x.st G.f1:=w.r1
    (repeat' first|refine vsx ?_|(with_reducible refine aS ?_)|((with_reducible refine aP ?_);refine bN (by omega) ?_)|(refine br ?_ ?_<;>first|exact bo|intro _)|fail)
    all_goals try(exfalso;omega)
    refine aG (adB (l:=x.st) (by have:=xI hs1;omega) r1H) ?_
    rintro _ h2 ⟨e2,_,G2,rfl,⟨z2,rfl,zq2⟩,oG2⟩
    have n2:=e2.1
    cases ho:oldest (allT x.st) with
    |none=>
     unfold nQ;rw[ho]
     simp only[Option.isSome_none]
     (repeat' first|((with_reducible refine dQ ?_);refine EK.st_ (ek.ext aA) (by rfl) (by rfl) bP ?_;intro h_ ek k_ n_)|refine vsx ?_|(with_reducible refine aS ?_)|((with_reducible refine bF ?_);simp only[g0,g1,g2]))
     obtain⟨x3,F3,e3,s3,m3⟩:=jq _ {t with pc:=0} rfl rfl ek
     subst e3
     have hb_:=s3.w.bk.1
     refine fK ?_
     have s4:=s3.put (x':=kE ({x with tasks:=x.tasks.set k' {t with pc:=0}})) (h':=AH.upd h_ B ⟨_,0,0⟩) (iL hb_) kr
     (repeat' first|refine vsw ?_|fail)
     exact Aj w bz e (by omega) s4
    |some o=>
     unfold nQ;rw[ho]
     simp only[Option.isSome_some,Option.getD_some]
     (repeat' first|((with_reducible refine dQ ?_);refine EK.st_ (ek.ext aA) (by rfl) (by rfl) bP ?_;intro h_ ek k_ n_)|refine vsx ?_|(with_reducible refine aS ?_)|fail)
     obtain⟨x1,F1,e1,s1,m1⟩:=jq _ {t with pc:=0} rfl rfl ek
     have h11:1≤(x1.st.length:Int):=by rw[e1];exact h1
     have ht1:x1.tasks[k']? =some {t with pc:=0}:=by rw[e1];show(x.tasks.set k' _)[k']? =_;rw[List.getElem?_set_self hkk]
     have hh1:iK x1 o.id=iK x o.id:=by rw[e1];rfl
     refine aG (M8 (tr:=o.id) s1.w h11) ?_
     rintro v3 h3 ⟨hy,hn⟩
     rw[hh1] at hy hn
     by_cases hf:iK x o.id= -1
     ·rw[if_neg (by omega)]
      obtain⟨rfl,W⟩:=hy hf
      obtain⟨V2,F2,s2,e2v,-,kk,n3,-⟩:=rQ s1 W
      obtain⟨x2,hx2,s2⟩:=s2.gen
      obtain⟨y0,y1,y2,y3,y4,y5,y6,y7,y8,y9,y10⟩:=V2
      have e2v:y9= .sl b9 o9 x.tasks.length:=e2v
      subst e2v
      have nA:∀ c,c < h.n+1+1∨H.n≤c→c ∉ B::F1.a:=fun c hc hm=>by
       rcases List.mem_cons.1 hm with q|q
       ·omega
       ·have:=m1 c q;have:=w.own.2 c this;have:=(w.own.1.2 c (m1 c q)).1;omega
      have bo:Bk h3 h2.n [.int .i64 o.id,.int .i64 o.stamp,.int .i64 o.first,z2] 0:=bJ kk aX (nA _ (.inr (by omega)))
      have bz2:Bk h3 (h.n+1) [AV.int .i64 0,AV.int .i64 0,AV.int .i64 0,AV.int .i64 0,AV.int .i64 0,AV.int .i64 0,AV.int .i64 0,AV.int .i64 0,AV.int .i64 0,AV.str ⟨#[]⟩,AV.str ⟨#[]⟩,AV.au,AV.int .i64 0,AV.bool false,AV.au,AV.int .i64 0,AV.int .i64 0,AV.int .i64 0,AV.int .i64 0,AV.int .i64 0,AV.au,AV.int .i64 0,AV.int .i64 0,AV.au,AV.au,AV.au,AV.au,AV.au,AV.au,AV.au,AV.au,AV.int .i64 0] 0:=bJ kk aX (nA _ (.inl (by omega)))
      have ht2:x2.tasks[k']? =some {t with pc:=0}:=by rw[hx2];exact ht1
      obtain⟨eO,eG,jL,jK,jS,et,jJ,jI,jT,jP,jR,jO,jQ,jU,iU,fB⟩:=s2.fH (bb:=b9) (off:=o9) ht2 rfl;have et:EK Task _ _ _ b9 (o9+k' * 12) [.int .i64 ({t with pc:=0}:Task).op,.int .i64 ({t with pc:=0}:Task).pc,.int .i64 ({t with pc:=0}:Task).s.trace,.int .i64 ({t with pc:=0}:Task).s.id,.int .i64 ({t with pc:=0}:Task).s.start,.int .i64 ({t with pc:=0}:Task).s.fin,.bool ({t with pc:=0}:Task).s.err,eO,.int .i64 ({t with pc:=0}:Task).trace,.int .i64 ({t with pc:=0}:Task).stamp,eG,.int .i64 ({t with pc:=0}:Task).h] _ _ _ _:=et
      have bB2:Bk h3 B [AV.int .i64 x2.c.cB,AV.int .i64 x2.c.wait,AV.int .i64 x2.c.budget,AV.int .i64 x2.c.cache,AV.int .i64 x2.c.queue,AV.int .i64 x2.c.rate,AV.int .i64 x2.c.aV,AV.int .i64 x2.c.rule.kind,AV.int .i64 x2.c.rule.n,AV.str x2.c.rule.key,AV.str x2.c.rule.text,y0,AV.int .i64 x2.time,AV.bool x2.shut,y1,AV.int .i64 x2.bQ,AV.int .i64 x2.b.rate,AV.int .i64 x2.b.aV,AV.int .i64 x2.b.tokens,AV.int .i64 x2.b.at_,y2,AV.int .i64 x2.used,AV.int .i64 x2.w.now,y3,y4,y5,y6,y7,y8,(AV.sl b9 o9 x.tasks.length),y10,AV.int .i64 x2.next] 0:=s2.w.bk
      (repeat' first|((with_reducible refine dQ ?_);refine EK.st_ (et.ext aA) (by rfl) (by rfl) bP ?_;intro h_ et k_ n_)|refine vsx ?_|(with_reducible refine aS ?_)|((with_reducible refine bF ?_);simp only[g0,g1,g2]))
      obtain⟨x3,F3,e3,s3,m3⟩:=fB _ {t with pc:=3,trace:=o.id,stamp:=o.stamp} rfl rfl et
      have ew:x3={x with st:=gU x.st o.id k',tasks:=x.tasks.set k' {t with pc:=3,trace:=o.id,stamp:=o.stamp}}:=by rw[e3,hx2,e1];simp only[List.set_set]
      subst hx2
      subst e1
      rw[ew] at s3
      have hb_:=s3.w.bk.1
      refine fK ?_
      have s4:=s3.put (x':=kE ({x with st:=gU x.st o.id k',tasks:=x.tasks.set k' {t with pc:=3,trace:=o.id,stamp:=o.stamp}})) (h':=AH.upd h_ B ⟨_,0,0⟩) (iL hb_) kr
      (repeat' first|refine vsw ?_|fail)
      exact Aj w bz e (by omega) s4
     ·rw[if_pos (by omega)]
      obtain⟨rfl,e3⟩:=hn hf
      obtain⟨eO,eG,jL,jK,jS,et,jJ,jI,jT,jP,jR,jO,jQ,jU,iU,fB⟩:=s1.fH (bb:=b9) (off:=o9) ht1 rfl;have et:EK Task _ _ _ b9 (o9+k' * 12) [.int .i64 ({t with pc:=0}:Task).op,.int .i64 ({t with pc:=0}:Task).pc,.int .i64 ({t with pc:=0}:Task).s.trace,.int .i64 ({t with pc:=0}:Task).s.id,.int .i64 ({t with pc:=0}:Task).s.start,.int .i64 ({t with pc:=0}:Task).s.fin,.bool ({t with pc:=0}:Task).s.err,eO,.int .i64 ({t with pc:=0}:Task).trace,.int .i64 ({t with pc:=0}:Task).stamp,eG,.int .i64 ({t with pc:=0}:Task).h] _ _ _ _:=et
      (repeat' first|((with_reducible refine dQ ?_);refine EK.st_ (et.ext aA) (by rfl) (by rfl) bP ?_;intro h_ et k_ n_)|refine vsx ?_|(with_reducible refine aS ?_)|((with_reducible refine bF ?_);simp only[g0,g1,g2]))
      obtain⟨x3,F3,e3x,s3,m3⟩:=fB _ {t with pc:=3,trace:=o.id,stamp:=o.stamp} rfl rfl et
      exact xJ w bz rfl e (by omega) s3.mv.kp (BG x hs0) r0'
   ·have eS:gJ x k' t=some (lV x k' t):=by unfold gJ;rw[if_neg (by omega),if_neg (by omega),if_neg (by omega)]
    rw[eS]
    (repeat' first|refine vsx ?_|(with_reducible refine aS ?_)|((with_reducible refine aP ?_);refine bN (by omega) ?_)|(refine br ?_ ?_<;>first|exact bo|intro _)|fail)
    all_goals try(exfalso;omega)
    refine aG (adx w ht h1 hs1 hI.V6) ?_
    rintro _ h2 ⟨rfl,W⟩
    rw[ak5 hI ht hg hp] at W
    obtain⟨V2,F2,s2,kk,-⟩:=s.call W
    obtain⟨z,hz,s2⟩:=s2.gen
    rw[←hz]
    obtain⟨y0,y1,y2,y3,y4,y5,y6,y7,y8,y9,y10⟩:=V2
    have bB2:Bk h2 B [AV.int .i64 z.c.cB,AV.int .i64 z.c.wait,AV.int .i64 z.c.budget,AV.int .i64 z.c.cache,AV.int .i64 z.c.queue,AV.int .i64 z.c.rate,AV.int .i64 z.c.aV,AV.int .i64 z.c.rule.kind,AV.int .i64 z.c.rule.n,AV.str z.c.rule.key,AV.str z.c.rule.text,y0,AV.int .i64 z.time,AV.bool z.shut,y1,AV.int .i64 z.bQ,AV.int .i64 z.b.rate,AV.int .i64 z.b.aV,AV.int .i64 z.b.tokens,AV.int .i64 z.b.at_,y2,AV.int .i64 z.used,AV.int .i64 z.w.now,y3,y4,y5,y6,y7,y8,y9,y10,AV.int .i64 z.next] 0:=s2.w.bk
    have bz2:=bJ kk bz nz
    (repeat' first|refine vsx ?_|((with_reducible refine bF ?_);simp only[g0,g1,g2]))
    have hb_:=s2.w.bk.1
    refine fK ?_
    have s4:=s2.put (x':=kE (z)) (h':=AH.upd h2 B ⟨_,0,0⟩) (iL hb_) kr
    (repeat' first|refine vsw ?_|fail)
    exact Aj w bz e (by omega) s4
  ·rw[zu fun c=>hg (by obtain⟨t',ht',q⟩:=c.2.2;simp only[Int.toNat_natCast] at ht';rw[ht] at ht';cases ht';exact q)]
   (repeat' first|refine vs ?_|(refine br ?_ ?_<;>first|exact bo|intro _)|((with_reducible refine ay vQ ?_);(refine aU (Jc (x:=x) ok hs0 ⟨_,_,_,_,_,_,_,_,_,_,_,_,_,_,_,_,_,_,_,_,_,_,rfl,rfl,ah,ah,ah,ah,ah,ah,ah,ah,ah,ah,ah⟩) ?_ ?_<;>intro hn))|((with_reducible refine ay bA ?_);(refine cZ (gF) ?_ ?_<;>intro hb<;>(first|replace hb:=dD hb|replace hb:=dH hb)))|((with_reducible refine aP ?_);((refine ix ?_);rintro _ _ _ _ _ ⟨_,_,_,_,rfl,rfl,_,_⟩ _))|fail)
   all_goals first
    |(exfalso;first|omega|exact absurd hw.1 (by assumption))
    |exact Gg w bz e (by omega)
 ·rw[zu fun c=>hw ⟨c.1,by have:=c.2.1;omega⟩]
  (repeat' first|refine vs ?_|((with_reducible refine ay vQ ?_);(refine aU (Jc (x:=x) ok hs0 ⟨_,_,_,_,_,_,_,_,_,_,_,_,_,_,_,_,_,_,_,_,_,_,rfl,rfl,ah,ah,ah,ah,ah,ah,ah,ah,ah,ah,ah⟩) ?_ ?_<;>intro hn))|((with_reducible refine ay bA ?_);(refine cZ (gF) ?_ ?_<;>intro hb<;>(first|replace hb:=dD hb|replace hb:=dH hb)))|((with_reducible refine bF ?_);simp only[g0,g1,g2]))
  all_goals first
   |exact absurd ⟨by assumption,by omega⟩ hw
   |exact Gg w bz e (by omega)
end Go.Proofs.YtekfdoknfcedpaaGreat
