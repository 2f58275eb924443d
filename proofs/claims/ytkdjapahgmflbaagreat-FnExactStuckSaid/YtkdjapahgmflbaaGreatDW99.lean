import Derived.Test.YtkdjapahgmflbaaGreatDW111
set_option linter.unusedSimpArgs false
set_option linter.unusedVariables false
set_option maxHeartbeats 4000000
set_option maxRecDepth 20000
namespace Go.Proofs.YtkdjapahgmflbaaGreat
open Go Go.Ab Go.RowKit
attribute[local irreducible] cZ
section
def PD (x0 x1:AV):Prog:=.op (.box x0) fun a=>.op (.alloc jE) fun b=>Ld 32 a fun c=>Cl rX [c] fun c=>.op (.alloc jE) fun d=>.op (.st 32 d c) fun _=>Ld 32 a fun c=>Cl jI [c] fun c=>.op (.una .not c) fun c=>.gop c false (.mv x1) fun e=>.gop c false (.call bq [e,.int .i64 0,.int .i64 4]) fun e=>.gop c false (.una .not e) fun e=>Pk c (.bool true) e fun c=>Gf c false 29 a fun e=>.gop c false (.mv x1) fun f=>.gop c false (.idx 12 e f) fun e=>Gf c false 0 e fun e=>.gop c false (.bin 0 .neq e (.int .i64 1)) fun e=>Pk c (.bool true) e fun c=>.ite c (Ld 32 d fun a=>.op (.st 32 b a) fun _=>.fin [.cn 32 b,.val (.bool false)]) (Lg 29 d fun c=>Ix 12 c x1 fun c=>Lf 1 c fun e=>Bn .eql e (.int .i64 0) fun f=>.scope (.ite f (.op (.bg c) fun a=>.op (.fad 2 a) fun a=>Lg 0 a fun a=>Cl zP [d,x1,a] fun a=>Sf 1 c (.int .i64 1) fun _=>.leaf 0 [a]) (Bn .eql e (.int .i64 1) fun a=>.scope (.ite a (Cl KZ [d,x1] fun a=>.leaf 0 [a]) (Bn .eql e (.int .i64 2) fun a=>.scope (.ite a (Lg 14 d fun a=>Cl JU [a] fun a=>.op (.ext a 0) fun b=>.op (.ext a 1) fun a=>.op (.alloc [.int .i64 0,.int .i64 0,.int .i64 0,.aC]) fun e=>.op (.st 4 e b) fun _=>Sf 1 c (.int .i64 0) fun _=>.scope (.ite a (Lg 0 e fun a=>Cl zP [d,x1,a] fun a=>.op (.fad 0 e) fun b=>.op (.ld1 b) fun d=>.op (.fad 1 e) fun e=>.op (.ld1 e) fun f=>Sf 1 c (.int .i64 3) fun _=>.chk (.ld1 b) d (.chk (.ld1 e) f (Sf 8 c d fun _=>.chk (.ld1 e) f (Sf 9 c f fun _=>.leaf 0 [a])))) (.leaf 0 [.bool true])) (fun a=>.leaf 0 [g a 0]) fun a b=>aB a 1 (.leaf 1 b) .bad) (Cl JO [d,x1] fun _=>.leaf 0 [.bool true])) (fun a=>.leaf 0 [g a 0]) fun a b=>aB a 1 (.leaf 1 b) .bad)) (fun a=>.leaf 0 [g a 0]) fun a b=>aB a 1 (.leaf 1 b) .bad)) (fun c=>.op (.una .not (g c 0)) fun c=>.ite c (Ld 32 a fun a=>Cl rX [a] fun a=>.op (.st 32 b a) fun _=>.fin [.cn 32 b,.val (.bool false)]) (Lg 12 d fun a=>Bn .add a (.int .i64 1) fun a=>Sg 12 d a fun _=>Ld 32 d fun a=>.op (.st 32 b a) fun _=>.fin [.cn 32 b,.val (.bool true)])) fun a b=>aB a 1 (.leaf 1 b) .bad)
theorem aci (x0 x1:AV):CC Tryz.prog Jw [x0,x1] (PD x0 x1):=cc Tryz.func34 [2,4,6,8] (fun r=>if r=18 then[(0,[]),(1,[]),(2,[]),(3,[]),(4,[]),(5,[]),(6,[]),(7,[]),(8,[]),(9,[4,6]),(10,[]),(11,[]),(12,[6]),(13,[]),(14,[]),(15,[])] else[])
end
theorem abq {h:AH} {x:Wld} {cs:List AV} {F:List Nat} {k:Int} (ok:Cel.ok x) (hs:Sz.sz x≤33554432) (r:Cel.rep h x cs F):bN Tryz.prog Jw [.agg cs,.int .i64 k] h (nu h (yH x k).1 (yH x k).2):=by
 have hs0:Sz.sz x≤67108864:=by omega
 have hs1:=hs
 have hs:=hs0
 have r0':=r
 obtain⟨v0,v1,v2,v3,v4,v5,v6,v7,v8,v9,v10,F0,F1,F2,F3,F4,F5,F6,F7,F8,F9,F10,rfl,rfl,r0,r1,r2,r3,r4,r5,r6,r7,r8,r9,r10⟩:=r
 have hs:Sz.sz x.c+(x.st.length+szs x.st)+(x.cache.length+szs x.cache)+Sz.sz x.w+(x.due.length+szs x.due)+(x.queue.length+szs x.queue)+(x.out.length+szs x.out)+(x.tasks.length+szs x.tasks)+(x.aF.length+szs x.aF)≤67108864:=hs
 have hl1:=r1.small
 have hl9:=r9.small
 refine aci _ _ ?_
 unfold PD
 refine prolog (oC x hs0) r0' ?_
 intro H B V G e nB hB bx bz w
 have bB:Bk H B [AV.int .i64 x.c.eU,AV.int .i64 x.c.wait,AV.int .i64 x.c.budget,AV.int .i64 x.c.cache,AV.int .i64 x.c.queue,AV.int .i64 x.c.rate,AV.int .i64 x.c.bn,AV.int .i64 x.c.rule.kind,AV.int .i64 x.c.rule.n,AV.str x.c.rule.key,AV.str x.c.rule.text,V.v0,AV.int .i64 x.time,AV.bool x.shut,V.v1,AV.int .i64 x.bS,AV.int .i64 x.b.rate,AV.int .i64 x.b.bn,AV.int .i64 x.b.tokens,AV.int .i64 x.b.at_,V.v2,AV.int .i64 x.used,AV.int .i64 x.w.now,V.v3,V.v4,V.v5,V.v6,V.v7,V.v8,V.v9,V.v10,AV.int .i64 x.next] 0:=w.bk
 by_cases hw:mO x∧(0≤k∧k≤4)
 ·have h5:=hw.1.2.1
  obtain⟨t,ht,-,-⟩:=aP (show k.toNat < x.tasks.length by omega)
  obtain⟨k',rfl⟩:∃ k':Nat,k=k':=⟨k.toNat,by omega⟩
  simp only[Int.toNat_natCast] at ht
  have hI:=xL.1 hw.1
  by_cases hg:t.op=1
  ·have hk3:=(task1 hI ht hg).2.1
   rw[VI ⟨hw.1,⟨by omega,by omega⟩,t,ht,hg⟩ ht]
   obtain⟨d,hd,-,-⟩:=hI.own ht (by omega)
   have htk:=(hI.tasks k' t ht).1.1
   have h1:=hI.n1
   (repeat' first|refine vs ?_|(refine br ?_ ?_<;>intro _<;>try(exfalso;omega))|((with_reducible refine aA jI ?_);(refine aS (ny (x:=x) ok hs0 ⟨_,_,_,_,_,_,_,_,_,_,_,_,_,_,_,_,_,_,_,_,_,_,rfl,rfl,ah,ah,ah,ah,ah,ah,ah,ah,ah,ah,ah⟩) ?_ ?_<;>intro hn))|((with_reducible refine aA bq ?_);(refine bU (eZ) ?_ ?_<;>intro hb<;>(first|replace hb:=dx hb|replace hb:=dz hb)))|((with_reducible refine aY ?_);((refine ix ?_);rintro _ _ _ _ _ ⟨_,_,_,_,rfl,rfl,_,_⟩ _))|fail)
   all_goals try(exfalso;first|omega|exact absurd hw.1 (by assumption))
   obtain⟨y0,y1,y2,y3,y4,y5,y6,y7,y8,y9,y10⟩:=V
   obtain⟨b9,o9,e9⟩:=w.r9.sl ht
   have e9:y9= .sl b9 o9 x.tasks.length:=e9
   subst e9
   have l9:b9 < _:=dZ w.r9
   have bB:=bkE w
   have hbB:=bB.1
   have hkk:k' < x.tasks.length:=by omega
   have s:=w.ws
   obtain⟨dI,dJ,dU,j6,kG,ek,j5,j4,kH,iT,kF,kD,kE,jT,jk,gW⟩:=s.dL (bb:=b9) (off:=o9) ht rfl;have ek:EK Task _ _ _ b9 (o9+k' * 12) [.int .i64 t.op,.int .i64 t.pc,.int .i64 t.s.trace,.int .i64 t.s.id,.int .i64 t.s.start,.int .i64 t.s.fin,.bool t.s.err,dI,.int .i64 t.trace,.int .i64 t.stamp,dJ,.int .i64 t.h] _ _ _ _:=ek
   have at9:=ek.at_
   have hBo:∀ c∈B::G.a,h.n+1+1≤c:=fun c hc=>by
    rcases List.mem_cons.1 hc with q|q
    ·omega
    ·exact(w.own.1.2 c q).1
   have nx:h.n ∉ B::G.a:=fun hm=>by have:=hBo _ hm;omega
   have nz:h.n+1 ∉ B::G.a:=fun hm=>by have:=hBo _ hm;omega
   have hcs:t.pc=0∨t.pc=1∨t.pc=2∨t.pc=3:=by have:=htk.2.1;omega
   rcases hcs with hp|hp|hp|hp
   ·have eS:iF x k' t=if iB x t.s.trace≠-1 then none else some {x with st:=gy x.st t.s.trace k',tasks:=x.tasks.set k' {t with pc:=1}}:=by unfold iF;rw[if_pos hp]
    rw[eS]
    (repeat' first|refine vsx ?_|refine ao4 ?_|(refine br ?_ ?_<;>intro _<;>try(exfalso;omega))|fail)
    all_goals try(exfalso;omega)
    refine aK (Jf (tr:=t.s.trace) w h1) ?_
    rintro v2 h2 ⟨hy,hn⟩
    by_cases hf:iB x t.s.trace= -1
    ·rw[if_neg (by omega)]
     obtain⟨rfl,W⟩:=hy hf
     obtain⟨V2,F2,s2,e2v,-,kk,-,-⟩:=ni s W
     obtain⟨x2,hx2,s2⟩:=s2.gen
     obtain⟨y0,y1,y2,y3,y4,y5,y6,y7,y8,y9,y10⟩:=V2
     have e2v:y9= .sl b9 o9 x.tasks.length:=e2v
     subst e2v
     have ht2:x2.tasks[k']? =some t:=by rw[hx2];exact ht
     obtain⟨bZ,bY,gF,gD,gU,et,gM,gL,gI,fZ,gT,gP,gQ,gV,fF,dH⟩:=s2.dL (bb:=b9) (off:=o9) ht2 rfl;have et:EK Task _ _ _ b9 (o9+k' * 12) [.int .i64 t.op,.int .i64 t.pc,.int .i64 t.s.trace,.int .i64 t.s.id,.int .i64 t.s.start,.int .i64 t.s.fin,.bool t.s.err,bZ,.int .i64 t.trace,.int .i64 t.stamp,bY,.int .i64 t.h] _ _ _ _:=et
     have bB2:=bkE s2.w
     have bz2:=bF kk bz nz
     (repeat' first|((with_reducible refine bW ?_);refine EK.st_ (et.ext aD) (by rfl) (by rfl) aX ?_;intro h_ et k_ n_)|refine vsx ?_|(with_reducible refine aW ?_)|refine gS ?_|fail)
     obtain⟨x3,F3,e3,s3,m3⟩:=dH _ {t with pc:=1} rfl rfl et
     subst e3
     subst hx2
     have hb_:=s3.w.bk.1
     refine eu ?_
     have s4:=s3.put (x':=fu ({x with st:=gy x.st t.s.trace k',tasks:=x.tasks.set k' {t with pc:=1}})) (h':=AH.upd h_ B ⟨_,0,0⟩) (fP hb_) fO
     (repeat' first|refine vsw ?_|fail)
     exact qW w bz e (by omega) s4
    ·rw[if_pos (by omega)]
     obtain⟨rfl,e2⟩:=hn hf
     (repeat' first|((with_reducible refine bW ?_);refine EK.st_ (ek.ext aD) (by rfl) (by rfl) aX ?_;intro h_ ek k_ n_)|refine vsx ?_|(with_reducible refine aW ?_)|refine gS ?_|fail)
     obtain⟨x3,F3,e3,s3,m3⟩:=gW _ {t with pc:=1} rfl rfl ek
     exact uf w bz rfl e (by omega) s3.mv.kp (oC x hs0) r0'
   ·have eS:iF x k' t=lookW x k' t:=by unfold iF;rw[if_neg (by omega),if_pos hp]
    rw[eS]
    (repeat' first|refine vsx ?_|refine ao4 ?_|(refine br ?_ ?_<;>intro _<;>try(exfalso;omega))|fail)
    all_goals try(exfalso;omega)
    refine aK (ah5 (t:=t) (d:=d) w ht hd htk.1 h1 hs1) ?_
    intro v2 h2 hst
    rw[alg hI ht hg hp] at hst
    cases hL:lookW x k' t with
    |none=>
     rw[hL] at hst
     obtain⟨rfl,kk⟩:=hst
     have bx2:=bF kk bx nx
     (repeat' first|refine vsx ?_|refine gS ?_|fail)
     exact uf w bz rfl e (by omega) kk (oC x hs0) r0'
    |some z=>
     rw[hL] at hst
     obtain⟨rfl,W⟩:=hst
     obtain⟨V2,F2,s2,kk,-⟩:=s.call W
     obtain⟨y0,y1,y2,y3,y4,y5,y6,y7,y8,y9,y10⟩:=V2
     have bB2:=bkE s2.w
     have bz2:=bF kk bz nz
     (repeat' first|refine vsx ?_|refine gS ?_|fail)
     have hb_:=s2.w.bk.1
     refine eu ?_
     have s4:=s2.put (x':=fu (z)) (h':=AH.upd h2 B ⟨_,0,0⟩) (fP hb_) fO
     (repeat' first|refine vsw ?_|fail)
     exact qW w bz e (by omega) s4
   ·have eS:iF x k' t=qV x k' t:=by unfold iF;rw[if_neg (by omega),if_neg (by omega),if_pos hp]
    rw[eS]
    have r1H:au H y1 x.st G.f1:=w.r1
    (repeat' first|refine vsx ?_|refine ao4 ?_|(refine br ?_ ?_<;>intro _<;>try(exfalso;omega))|fail)
    all_goals try(exfalso;omega)
    refine aK (acR (l:=x.st) (by have:=tY hs1;omega) r1H) ?_
    rintro _ h2 ⟨e2,_,G2,rfl,⟨z2,rfl,zq2⟩,oG2⟩
    have n2:=e2.1
    cases ho:oldest (allT x.st) with
    |none=>
     unfold qV;rw[ho]
     simp only[Option.isSome_none]
     (repeat' first|((with_reducible refine bW ?_);refine EK.st_ (ek.ext aD) (by rfl) (by rfl) aX ?_;intro h_ ek k_ n_)|refine vsx ?_|(with_reducible refine aW ?_)|refine gS ?_|fail)
     obtain⟨x3,F3,e3,s3,m3⟩:=gW _ {t with pc:=0} rfl rfl ek
     subst e3
     have hb_:=s3.w.bk.1
     refine eu ?_
     have s4:=s3.put (x':=fu ({x with tasks:=x.tasks.set k' {t with pc:=0}})) (h':=AH.upd h_ B ⟨_,0,0⟩) (fP hb_) fO
     (repeat' first|refine vsw ?_|fail)
     exact qW w bz e (by omega) s4
    |some o=>
     unfold qV;rw[ho]
     simp only[Option.isSome_some,Option.getD_some]
     (repeat' first|((with_reducible refine bW ?_);refine EK.st_ (ek.ext aD) (by rfl) (by rfl) aX ?_;intro h_ ek k_ n_)|refine vsx ?_|(with_reducible refine aW ?_)|fail)
     obtain⟨x1,F1,e1,s1,m1⟩:=gW _ {t with pc:=0} rfl rfl ek
     have h11:1≤(x1.st.length:Int):=by rw[e1];exact h1
     have ht1:x1.tasks[k']? =some {t with pc:=0}:=by rw[e1];show(x.tasks.set k' _)[k']? =_;rw[List.getElem?_set_self hkk]
     have hh1:iB x1 o.id=iB x o.id:=by rw[e1];rfl
     refine aK (Jf (tr:=o.id) s1.w h11) ?_
     rintro v3 h3 ⟨hy,hn⟩
     rw[hh1] at hy hn
     by_cases hf:iB x o.id= -1
     ·rw[if_neg (by omega)]
      obtain⟨rfl,W⟩:=hy hf
      obtain⟨V2,F2,s2,e2v,-,kk,n3,-⟩:=ni s1 W
      obtain⟨x2,hx2,s2⟩:=s2.gen
      obtain⟨y0,y1,y2,y3,y4,y5,y6,y7,y8,y9,y10⟩:=V2
      have e2v:y9= .sl b9 o9 x.tasks.length:=e2v
      subst e2v
      have nA:∀ c,c < h.n+1+1∨H.n≤c→c ∉ B::F1.a:=fun c hc hm=>by
       rcases List.mem_cons.1 hm with q|q
       ·omega
       ·have:=m1 c q;have:=w.own.2 c this;have:=(w.own.1.2 c (m1 c q)).1;omega
      have bo:Bk h3 h2.n [.int .i64 o.id,.int .i64 o.stamp,.int .i64 o.first,z2] 0:=bF kk aV (nA _ (.inr (by omega)))
      have bz2:Bk h3 (h.n+1) [AV.int .i64 0,AV.int .i64 0,AV.int .i64 0,AV.int .i64 0,AV.int .i64 0,AV.int .i64 0,AV.int .i64 0,AV.int .i64 0,AV.int .i64 0,AV.str ⟨#[]⟩,AV.str ⟨#[]⟩,AV.aC,AV.int .i64 0,AV.bool false,AV.aC,AV.int .i64 0,AV.int .i64 0,AV.int .i64 0,AV.int .i64 0,AV.int .i64 0,AV.aC,AV.int .i64 0,AV.int .i64 0,AV.aC,AV.aC,AV.aC,AV.aC,AV.aC,AV.aC,AV.aC,AV.aC,AV.int .i64 0] 0:=bF kk aV (nA _ (.inl (by omega)))
      have ht2:x2.tasks[k']? =some {t with pc:=0}:=by rw[hx2];exact ht1
      obtain⟨bZ,bY,gF,gD,gU,et,gM,gL,gI,fZ,gT,gP,gQ,gV,fF,dH⟩:=s2.dL (bb:=b9) (off:=o9) ht2 rfl;have et:EK Task _ _ _ b9 (o9+k' * 12) [.int .i64 ({t with pc:=0}:Task).op,.int .i64 ({t with pc:=0}:Task).pc,.int .i64 ({t with pc:=0}:Task).s.trace,.int .i64 ({t with pc:=0}:Task).s.id,.int .i64 ({t with pc:=0}:Task).s.start,.int .i64 ({t with pc:=0}:Task).s.fin,.bool ({t with pc:=0}:Task).s.err,bZ,.int .i64 ({t with pc:=0}:Task).trace,.int .i64 ({t with pc:=0}:Task).stamp,bY,.int .i64 ({t with pc:=0}:Task).h] _ _ _ _:=et
      have bB2:=bkE s2.w
      (repeat' first|((with_reducible refine bW ?_);refine EK.st_ (et.ext aD) (by rfl) (by rfl) aX ?_;intro h_ et k_ n_)|refine vsx ?_|(with_reducible refine aW ?_)|refine gS ?_|fail)
      obtain⟨x3,F3,e3,s3,m3⟩:=dH _ {t with pc:=3,trace:=o.id,stamp:=o.stamp} rfl rfl et
      have ew:x3={x with st:=gy x.st o.id k',tasks:=x.tasks.set k' {t with pc:=3,trace:=o.id,stamp:=o.stamp}}:=by rw[e3,hx2,e1];simp only[List.set_set]
      subst hx2
      subst e1
      rw[ew] at s3
      have hb_:=s3.w.bk.1
      refine eu ?_
      have s4:=s3.put (x':=fu ({x with st:=gy x.st o.id k',tasks:=x.tasks.set k' {t with pc:=3,trace:=o.id,stamp:=o.stamp}})) (h':=AH.upd h_ B ⟨_,0,0⟩) (fP hb_) fO
      (repeat' first|refine vsw ?_|fail)
      exact qW w bz e (by omega) s4
     ·rw[if_pos (by omega)]
      obtain⟨rfl,e3⟩:=hn hf
      obtain⟨bZ,bY,gF,gD,gU,et,gM,gL,gI,fZ,gT,gP,gQ,gV,fF,dH⟩:=s1.dL (bb:=b9) (off:=o9) ht1 rfl;have et:EK Task _ _ _ b9 (o9+k' * 12) [.int .i64 ({t with pc:=0}:Task).op,.int .i64 ({t with pc:=0}:Task).pc,.int .i64 ({t with pc:=0}:Task).s.trace,.int .i64 ({t with pc:=0}:Task).s.id,.int .i64 ({t with pc:=0}:Task).s.start,.int .i64 ({t with pc:=0}:Task).s.fin,.bool ({t with pc:=0}:Task).s.err,bZ,.int .i64 ({t with pc:=0}:Task).trace,.int .i64 ({t with pc:=0}:Task).stamp,bY,.int .i64 ({t with pc:=0}:Task).h] _ _ _ _:=et
      (repeat' first|((with_reducible refine bW ?_);refine EK.st_ (et.ext aD) (by rfl) (by rfl) aX ?_;intro h_ et k_ n_)|refine vsx ?_|(with_reducible refine aW ?_)|refine gS ?_|fail)
      obtain⟨x3,F3,e3x,s3,m3⟩:=dH _ {t with pc:=3,trace:=o.id,stamp:=o.stamp} rfl rfl et
      exact uf w bz rfl e (by omega) s3.mv.kp (oC x hs0) r0'
   ·have eS:iF x k' t=some (ng x k' t):=by unfold iF;rw[if_neg (by omega),if_neg (by omega),if_neg (by omega)]
    rw[eS]
    (repeat' first|refine vsx ?_|refine ao4 ?_|(refine br ?_ ?_<;>intro _<;>try(exfalso;omega))|fail)
    all_goals try(exfalso;omega)
    refine aK (acN w ht h1 hs1 hI.H7) ?_
    rintro _ h2 ⟨rfl,W⟩
    rw[ale hI ht hg hp] at W
    obtain⟨V2,F2,s2,kk,-⟩:=s.call W
    obtain⟨z,hz,s2⟩:=s2.gen
    rw[←hz]
    obtain⟨y0,y1,y2,y3,y4,y5,y6,y7,y8,y9,y10⟩:=V2
    have bB2:=bkE s2.w
    have bz2:=bF kk bz nz
    (repeat' first|refine vsx ?_|refine gS ?_|fail)
    have hb_:=s2.w.bk.1
    refine eu ?_
    have s4:=s2.put (x':=fu (z)) (h':=AH.upd h2 B ⟨_,0,0⟩) (fP hb_) fO
    (repeat' first|refine vsw ?_|fail)
    exact qW w bz e (by omega) s4
  ·rw[VJ fun c=>hg (by obtain⟨t',ht',q⟩:=c.2.2;simp only[Int.toNat_natCast] at ht';rw[ht] at ht';cases ht';exact q)]
   (repeat' first|refine vs ?_|(refine br ?_ ?_<;>intro _<;>try(exfalso;omega))|((with_reducible refine aA jI ?_);(refine aS (ny (x:=x) ok hs0 ⟨_,_,_,_,_,_,_,_,_,_,_,_,_,_,_,_,_,_,_,_,_,_,rfl,rfl,ah,ah,ah,ah,ah,ah,ah,ah,ah,ah,ah⟩) ?_ ?_<;>intro hn))|((with_reducible refine aA bq ?_);(refine bU (eZ) ?_ ?_<;>intro hb<;>(first|replace hb:=dx hb|replace hb:=dz hb)))|((with_reducible refine aY ?_);((refine ix ?_);rintro _ _ _ _ _ ⟨_,_,_,_,rfl,rfl,_,_⟩ _))|fail)
   all_goals first
    |(exfalso;first|omega|exact absurd hw.1 (by assumption))
    |exact qX w bz e (by omega)
 ·rw[VJ fun c=>hw ⟨c.1,by have:=c.2.1;omega⟩]
  (repeat' first|refine vs ?_|((with_reducible refine aA jI ?_);(refine aS (ny (x:=x) ok hs0 ⟨_,_,_,_,_,_,_,_,_,_,_,_,_,_,_,_,_,_,_,_,_,_,rfl,rfl,ah,ah,ah,ah,ah,ah,ah,ah,ah,ah,ah⟩) ?_ ?_<;>intro hn))|((with_reducible refine aA bq ?_);(refine bU (eZ) ?_ ?_<;>intro hb<;>(first|replace hb:=dx hb|replace hb:=dz hb)))|refine gS ?_|fail)
  all_goals first
   |exact absurd ⟨by assumption,by omega⟩ hw
   |exact qX w bz e (by omega)
end Go.Proofs.YtkdjapahgmflbaaGreat
