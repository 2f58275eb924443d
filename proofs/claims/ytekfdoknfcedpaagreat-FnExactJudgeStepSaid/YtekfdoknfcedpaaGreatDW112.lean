import Derived.Test.YtekfdoknfcedpaaGreatDW110
import Derived.Test.YtekfdoknfcedpaaGreatDW111
set_option linter.unusedSimpArgs false
set_option linter.unusedVariables false
set_option maxHeartbeats 4000000
set_option maxRecDepth 20000
namespace Go.Proofs.YtekfdoknfcedpaaGreat
open Go Go.Ab Go.RowKit
attribute[local irreducible] dK
section
def Nj (x0 x1:AV):Prog:=.op (.box x0) fun a=>.op (.alloc ji) fun b=>Ld 32 a fun c=>Cl Af [c] fun c=>.op (.alloc ji) fun d=>.op (.st 32 d c) fun _=>Ld 32 a fun c=>Cl tT [c] fun c=>.op (.una .not c) fun c=>.gop c false (.mv x1) fun e=>.gop c false (.call bK [e,.int .i64 0,.int .i64 4]) fun e=>.gop c false (.una .not e) fun e=>Pk c (.bool true) e fun c=>Gf c false 29 a fun e=>.gop c false (.mv x1) fun f=>.gop c false (.idx 12 e f) fun e=>Gf c false 0 e fun e=>.gop c false (.bin 0 .neq e (.int .i64 2)) fun e=>Pk c (.bool true) e fun c=>.ite c (Ld 32 d fun a=>.op (.st 32 b a) fun _=>.fin [.cn 32 b,.val (.bool false)]) (Lg 29 d fun c=>Ix 12 c x1 fun c=>Lf 1 c fun e=>Bn .eql e (.int .i64 0) fun f=>.scope (.ite f (Lf 8 c fun a=>Cl Hf [d,x1,a] fun a=>Sf 1 c (.int .i64 1) fun _=>.leaf 0 [a]) (Bn .eql e (.int .i64 1) fun a=>.scope (.ite a (Lg 15 d fun a=>.op (.bin 0 .eql a (.int .i64 (-1))) fun a=>Sg 15 d x1 fun _=>Sf 1 c (.int .i64 2) fun _=>.leaf 0 [a]) (Bn .eql e (.int .i64 2) fun a=>.scope (.ite a (Cl Jz [d,x1] fun _=>.leaf 0 [.bool true]) (Cl I5 [d,x1] fun a=>.leaf 0 [a])) (fun a=>.leaf 0 [g a 0]) fun a b=>aA a 1 (.leaf 1 b) .bad)) (fun a=>.leaf 0 [g a 0]) fun a b=>aA a 1 (.leaf 1 b) .bad)) (fun c=>.op (.una .not (g c 0)) fun c=>.ite c (Ld 32 a fun a=>Cl Af [a] fun a=>.op (.st 32 b a) fun _=>.fin [.cn 32 b,.val (.bool false)]) (Lg 12 d fun a=>Bn .add a (.int .i64 1) fun a=>Sg 12 d a fun _=>Ld 32 d fun a=>.op (.st 32 b a) fun _=>.fin [.cn 32 b,.val (.bool true)])) fun a b=>aA a 1 (.leaf 1 b) .bad)
theorem acW (x0 x1:AV):CC Tryz.prog Ak [x0,x1] (Nj x0 x1):=cc Tryz.func9 [2,4,6,8] (fun _=>[])
end
theorem alL {x:Wld} {k:Nat} {t:Task} (h:WI x) (ht:x.tasks[k]? =some t) (hop:t.op=2) (hpc:t.pc=2):pY x k t=jW x k t:=by
 have hh:dU t x.st.length=stripe t.trace x.st.length:=akC h.st.1.1 (.inr ⟨hop,.inr hpc⟩)
 unfold pY jW
 by_cases hit:pF x t
 ·rw[eD hit,if_pos rfl,if_pos rfl]
  obtain⟨o,ho⟩:∃ o,eB x.st t.trace=some o:=by have:=hit.1;unfold iY at this;exact Option.isSome_iff_exists.1 this
  have hoo:=(pI ho).1
  have hid:=(akF ho).2
  have ho':eB x.st o.id=some o:=by rw[hid];exact ho
  unfold ltI nO
  have e:qc k (eU x.st o.id)=jQ (eU x.st o.id) t.trace (-1):=by
   refine SX h.st.1.1 xS (fun i s' hs'=>?_) (UG h ht hh)
   obtain⟨s,hs,he,-⟩:=akH ho' hs'
   exact⟨s,hs,he⟩
  rw[hoo]
  have e2:∀ K,qc k (jK x o K).st=jQ (jK x o K).st t.trace (-1):=fun K=>e
  simp only[e2]
 ·rw[fU hit,if_neg (by decide),if_neg (by decide)]
  unfold ltI nO
  rw[SX h.st.1.1 rfl ajP (UG h ht hh)]
theorem MG {h:AH} {x:Wld} {cs:List AV} {F:List Nat} {k:Int} (ok:Cel.ok x) (hs:Sz.sz x≤33554432) (r:Cel.rep h x cs F):cZ Tryz.prog Ak [.agg cs,.int .i64 k] h (sN h (lV x k).1 (lV x k).2):=by
 have hs0:Sz.sz x≤67108864:=by omega
 have hs1:=hs
 have hs:=hs0
 have r0':=r
 obtain⟨v0,v1,v2,v3,v4,v5,v6,v7,v8,v9,v10,F0,F1,F2,F3,F4,F5,F6,F7,F8,F9,F10,rfl,rfl,r0,r1,r2,r3,r4,r5,r6,r7,r8,r9,r10⟩:=r
 have hs:Sz.sz x.c+(x.st.length+szs x.st)+(x.cache.length+szs x.cache)+Sz.sz x.w+(x.due.length+szs x.due)+(x.queue.length+szs x.queue)+(x.out.length+szs x.out)+(x.tasks.length+szs x.tasks)+(x.aH.length+szs x.aH)≤67108864:=hs
 have hl1:=r1.small
 have hl9:=r9.small
 refine acW _ _ ?_
 unfold Nj
 refine prolog (zR x hs0) r0' ?_
 intro H B V G e nB hB bx bz w
 have bB:Bk H B [AV.int .i64 x.c.bZ,AV.int .i64 x.c.wait,AV.int .i64 x.c.budget,AV.int .i64 x.c.cache,AV.int .i64 x.c.queue,AV.int .i64 x.c.rate,AV.int .i64 x.c.aW,AV.int .i64 x.c.rule.kind,AV.int .i64 x.c.rule.n,AV.str x.c.rule.key,AV.str x.c.rule.text,V.v0,AV.int .i64 x.time,AV.bool x.shut,V.v1,AV.int .i64 x.bH,AV.int .i64 x.b.rate,AV.int .i64 x.b.aW,AV.int .i64 x.b.tokens,AV.int .i64 x.b.at_,V.v2,AV.int .i64 x.used,AV.int .i64 x.w.now,V.v3,V.v4,V.v5,V.v6,V.v7,V.v8,V.v9,V.v10,AV.int .i64 x.next] 0:=w.bk
 by_cases hw:oQ x∧(0≤k∧k≤4)
 ·have h5:=hw.1.2.1
  obtain⟨t,ht,-,-⟩:=aR (show k.toNat < x.tasks.length by omega)
  obtain⟨k',rfl⟩:∃ k':Nat,k=k':=⟨k.toNat,by omega⟩
  simp only[Int.toNat_natCast] at ht
  have hI:=RF.1 hw.1
  by_cases hg:t.op=2
  ·have hT:=task2 hI ht hg
   have hk3:=hT.2.1
   rw[JU ⟨hw.1,⟨by omega,by omega⟩,t,ht,hg⟩ ht]
   obtain⟨d,hd,-,-⟩:=hI.own ht (by omega)
   have htk:=(hI.tasks k' t ht).1.1
   have h1:=hI.n1
   (repeat' first|refine vs ?_|(refine br ?_ ?_<;>first|exact bx|intro _)|((with_reducible refine aB tT ?_);(refine aX (IJ (x:=x) ok hs0 ⟨_,_,_,_,_,_,_,_,_,_,_,_,_,_,_,_,_,_,_,_,_,_,rfl,rfl,ah,ah,ah,ah,ah,ah,ah,ah,ah,ah,ah⟩) ?_ ?_<;>intro hn))|((with_reducible refine aB bK ?_);(refine cK (eY) ?_ ?_<;>intro hb<;>(first|replace hb:=dx hb|replace hb:=dz hb)))|((with_reducible refine aC ?_);((first|refine ix ?_|refine ixi ?_|(refine ixg ?_;intro _ _)|(refine aL ?_;intro _ _));first|rintro _ _ _ _ _ ⟨rfl,rfl⟩ _|rintro _ _ _ _ _ ⟨_,rfl,_⟩ _|rintro _ _ _ _ _ ⟨_,_,_,_,rfl,rfl,_,_⟩ _|intro _ _ _ _ _ _ _))|(refine sx ?_;intro _ _)|((with_reducible refine aJ ?_);simp only[g0,g1,g2]))
   all_goals try(exfalso;first|omega|exact absurd hw.1 (by assumption))
   obtain⟨y0,y1,y2,y3,y4,y5,y6,y7,y8,y9,y10⟩:=V
   obtain⟨b9,o9,e9⟩:=w.r9.sl ht
   have e9:y9= .sl b9 o9 x.tasks.length:=e9
   subst e9
   have l9:b9 < _:=jO w.r9
   have bB:Bk H B [AV.int .i64 x.c.bZ,AV.int .i64 x.c.wait,AV.int .i64 x.c.budget,AV.int .i64 x.c.cache,AV.int .i64 x.c.queue,AV.int .i64 x.c.rate,AV.int .i64 x.c.aW,AV.int .i64 x.c.rule.kind,AV.int .i64 x.c.rule.n,AV.str x.c.rule.key,AV.str x.c.rule.text,y0,AV.int .i64 x.time,AV.bool x.shut,y1,AV.int .i64 x.bH,AV.int .i64 x.b.rate,AV.int .i64 x.b.aW,AV.int .i64 x.b.tokens,AV.int .i64 x.b.at_,y2,AV.int .i64 x.used,AV.int .i64 x.w.now,y3,y4,y5,y6,y7,y8,(AV.sl b9 o9 x.tasks.length),y10,AV.int .i64 x.next] 0:=w.bk
   have hbB:=bB.1
   have hkk:k' < x.tasks.length:=by omega
   have s:=w.ws
   obtain⟨iN,iM,FT,FR,Gq,ek,FQ,FP,Gr,Gm,Gp,Gl,Gn,Gt,vR,su⟩:=s.iX (bb:=b9) (off:=o9) ht rfl;have ek:EK Task _ _ _ b9 (o9+k' * 12) [.int .i64 t.op,.int .i64 t.pc,.int .i64 t.s.trace,.int .i64 t.s.id,.int .i64 t.s.start,.int .i64 t.s.fin,.bool t.s.err,iN,.int .i64 t.trace,.int .i64 t.stamp,iM,.int .i64 t.h] _ _ _ _:=ek
   have at9:=ek.at_
   have hBo:∀ c∈B::G.a,h.n+1+1≤c:=fun c hc=>by
    rcases List.mem_cons.1 hc with q|q
    ·omega
    ·exact(w.own.1.2 c q).1
   have nx:h.n ∉ B::G.a:=fun hm=>by have:=hBo _ hm;omega
   have nz:h.n+1 ∉ B::G.a:=fun hm=>by have:=hBo _ hm;omega
   have hcs:t.pc=0∨t.pc=1∨t.pc=2∨t.pc=3:=by have:=htk.2.1;omega
   rcases hcs with hp|hp|hp|hp
   ·have eS:eZ x k' t=if jM x t.trace≠-1 then none else some {x with st:=jQ x.st t.trace k',tasks:=x.tasks.set k' {t with pc:=1}}:=by unfold eZ;rw[if_pos hp]
    rw[eS]
    (repeat' first|refine vsx ?_|(with_reducible refine aZ ?_)|(with_reducible refine bD ?_)|((with_reducible refine aC ?_);first|refine bn (by omega) ?_|refine bq (by omega) (by omega) ?_)|(refine br ?_ ?_<;>first|exact bx|intro _)|((with_reducible refine aC ?_);((first|refine ix ?_|refine ixi ?_|(refine ixg ?_;intro _ _)|(refine aL ?_;intro _ _));first|rintro _ _ _ _ _ ⟨rfl,rfl⟩ _|rintro _ _ _ _ _ ⟨_,rfl,_⟩ _|rintro _ _ _ _ _ ⟨_,_,_,_,rfl,rfl,_,_⟩ _|intro _ _ _ _ _ _ _))|(refine sx ?_;intro _ _)|((with_reducible refine aJ ?_);simp only[g0,g1,g2]))
    all_goals try(exfalso;omega)
    refine aT (aaA (tr:=t.trace) w h1) ?_
    rintro v2 h2 ⟨hy,hn⟩
    by_cases hf:jM x t.trace= -1
    ·rw[if_neg (by omega)]
     obtain⟨rfl,W⟩:=hy hf
     obtain⟨V2,F2,s2,e2v,-,kk,-,-⟩:=FX s W
     obtain⟨x2,hx2,s2⟩:=s2.gen
     obtain⟨y0,y1,y2,y3,y4,y5,y6,y7,y8,y9,y10⟩:=V2
     have e2v:y9= .sl b9 o9 x.tasks.length:=e2v
     subst e2v
     have ht2:x2.tasks[k']? =some t:=by rw[hx2];exact ht
     obtain⟨fT,fQ,lg,kZ,nT,et,mq,mo,lH,kF,nS,nP,nR,nU,jR,iZ⟩:=s2.iX (bb:=b9) (off:=o9) ht2 rfl;have et:EK Task _ _ _ b9 (o9+k' * 12) [.int .i64 t.op,.int .i64 t.pc,.int .i64 t.s.trace,.int .i64 t.s.id,.int .i64 t.s.start,.int .i64 t.s.fin,.bool t.s.err,fT,.int .i64 t.trace,.int .i64 t.stamp,fQ,.int .i64 t.h] _ _ _ _:=et
     have bB2:Bk h2 B [AV.int .i64 x2.c.bZ,AV.int .i64 x2.c.wait,AV.int .i64 x2.c.budget,AV.int .i64 x2.c.cache,AV.int .i64 x2.c.queue,AV.int .i64 x2.c.rate,AV.int .i64 x2.c.aW,AV.int .i64 x2.c.rule.kind,AV.int .i64 x2.c.rule.n,AV.str x2.c.rule.key,AV.str x2.c.rule.text,y0,AV.int .i64 x2.time,AV.bool x2.shut,y1,AV.int .i64 x2.bH,AV.int .i64 x2.b.rate,AV.int .i64 x2.b.aW,AV.int .i64 x2.b.tokens,AV.int .i64 x2.b.at_,y2,AV.int .i64 x2.used,AV.int .i64 x2.w.now,y3,y4,y5,y6,y7,y8,(AV.sl b9 o9 x.tasks.length),y10,AV.int .i64 x2.next] 0:=s2.w.bk
     have bz2:=bR kk bz nz
     (repeat' first|((with_reducible refine fu ?_);refine EK.st_ (et.ext aG) (by rfl) (by rfl) dB ?_;intro h_ et k_ n_)|refine vsx ?_|(with_reducible refine aZ ?_)|(with_reducible refine bD ?_)|((with_reducible refine aC ?_);first|refine bn (by omega) ?_|refine bq (by omega) (by omega) ?_)|(refine br ?_ ?_<;>first|exact bx|intro _)|((with_reducible refine aC ?_);((first|refine ix ?_|refine ixi ?_|(refine ixg ?_;intro _ _)|(refine aL ?_;intro _ _));first|rintro _ _ _ _ _ ⟨rfl,rfl⟩ _|rintro _ _ _ _ _ ⟨_,rfl,_⟩ _|rintro _ _ _ _ _ ⟨_,_,_,_,rfl,rfl,_,_⟩ _|intro _ _ _ _ _ _ _))|(refine sx ?_;intro _ _)|((with_reducible refine aJ ?_);simp only[g0,g1,g2]))
     obtain⟨x3,F3,e3,s3,m3⟩:=iZ _ {t with pc:=1} rfl rfl et
     subst e3
     subst hx2
     have hb_:=s3.w.bk.1
     refine lW ?_
     have s4:=s3.put (x':=jv ({x with st:=jQ x.st t.trace k',tasks:=x.tasks.set k' {t with pc:=1}})) (h':=AH.upd h_ B ⟨_,0,0⟩) (kC hb_) kS
     (repeat' first|refine vsw ?_|(with_reducible refine aZ ?_)|(with_reducible refine bD ?_)|((with_reducible refine aC ?_);first|refine bn (by omega) ?_|refine bq (by omega) (by omega) ?_)|(refine br ?_ ?_<;>first|exact bx|intro _)|((with_reducible refine aC ?_);((first|refine ix ?_|refine ixi ?_|(refine ixg ?_;intro _ _)|(refine aL ?_;intro _ _));first|rintro _ _ _ _ _ ⟨rfl,rfl⟩ _|rintro _ _ _ _ _ ⟨_,rfl,_⟩ _|rintro _ _ _ _ _ ⟨_,_,_,_,rfl,rfl,_,_⟩ _|intro _ _ _ _ _ _ _))|(refine sx ?_;intro _ _)|((with_reducible refine aJ ?_);simp only[g0,g1,g2]))
     exact Fw w bz e (by omega) s4
    ·rw[if_pos (by omega)]
     obtain⟨rfl,e2⟩:=hn hf
     (repeat' first|((with_reducible refine fu ?_);refine EK.st_ (ek.ext aG) (by rfl) (by rfl) dB ?_;intro h_ ek k_ n_)|refine vsx ?_|(with_reducible refine aZ ?_)|(with_reducible refine bD ?_)|((with_reducible refine aC ?_);first|refine bn (by omega) ?_|refine bq (by omega) (by omega) ?_)|(refine br ?_ ?_<;>first|exact bx|intro _)|((with_reducible refine aC ?_);((first|refine ix ?_|refine ixi ?_|(refine ixg ?_;intro _ _)|(refine aL ?_;intro _ _));first|rintro _ _ _ _ _ ⟨rfl,rfl⟩ _|rintro _ _ _ _ _ ⟨_,rfl,_⟩ _|rintro _ _ _ _ _ ⟨_,_,_,_,rfl,rfl,_,_⟩ _|intro _ _ _ _ _ _ _))|(refine sx ?_;intro _ _)|((with_reducible refine aJ ?_);simp only[g0,g1,g2]))
     obtain⟨x3,F3,e3,s3,m3⟩:=su _ {t with pc:=1} rfl rfl ek
     exact vJ w bz rfl e (by omega) s3.mv.kp (zR x hs0) r0'
   ·have eS:eZ x k' t=if x.bH≠-1 then none else some {x with bH:=(k':Int),tasks:=x.tasks.set k' {t with pc:=2}}:=by unfold eZ;rw[if_neg (by omega),if_pos hp]
    rw[eS]
    by_cases hf:x.bH= -1
    ·rw[if_neg (by omega)]
     (repeat' first|refine vsx ?_|(with_reducible refine aZ ?_)|(with_reducible refine bD ?_)|((with_reducible refine aC ?_);first|refine bn (by omega) ?_|refine bq (by omega) (by omega) ?_)|(refine br ?_ ?_<;>first|exact bx|intro _)|((with_reducible refine aC ?_);((first|refine ix ?_|refine ixi ?_|(refine ixg ?_;intro _ _)|(refine aL ?_;intro _ _));first|rintro _ _ _ _ _ ⟨rfl,rfl⟩ _|rintro _ _ _ _ _ ⟨_,rfl,_⟩ _|rintro _ _ _ _ _ ⟨_,_,_,_,rfl,rfl,_,_⟩ _|intro _ _ _ _ _ _ _))|(refine sx ?_;intro _ _)|((with_reducible refine aJ ?_);simp only[g0,g1,g2]))
     all_goals try(exfalso;omega)
     refine s.jY {x with bH:=(k':Int)} (fun x1 e1 s1=>?_) gZ (by rfl)
     have ht1:x1.tasks[k']? =some t:=by rw[e1];exact ht
     obtain⟨fT,fQ,lg,kZ,nT,et,mq,mo,lH,kF,nS,nP,nR,nU,jR,iZ⟩:=s1.iX (bb:=b9) (off:=o9) ht1 rfl;have et:EK Task _ _ _ b9 (o9+k' * 12) [.int .i64 t.op,.int .i64 t.pc,.int .i64 t.s.trace,.int .i64 t.s.id,.int .i64 t.s.start,.int .i64 t.s.fin,.bool t.s.err,fT,.int .i64 t.trace,.int .i64 t.stamp,fQ,.int .i64 t.h] _ _ _ _:=et
     (repeat' first|((with_reducible refine fu ?_);refine EK.st_ (et.ext aG) (by rfl) (by rfl) dB ?_;intro h_ et k_ n_)|refine vsx ?_|(with_reducible refine aZ ?_)|(with_reducible refine bD ?_)|((with_reducible refine aC ?_);first|refine bn (by omega) ?_|refine bq (by omega) (by omega) ?_)|(refine br ?_ ?_<;>first|exact bx|intro _)|((with_reducible refine aC ?_);((first|refine ix ?_|refine ixi ?_|(refine ixg ?_;intro _ _)|(refine aL ?_;intro _ _));first|rintro _ _ _ _ _ ⟨rfl,rfl⟩ _|rintro _ _ _ _ _ ⟨_,rfl,_⟩ _|rintro _ _ _ _ _ ⟨_,_,_,_,rfl,rfl,_,_⟩ _|intro _ _ _ _ _ _ _))|(refine sx ?_;intro _ _)|((with_reducible refine aJ ?_);simp only[g0,g1,g2]))
     obtain⟨x3,F3,e3,s3,m3⟩:=iZ _ {t with pc:=2} rfl rfl et
     subst e3
     subst e1
     have hb_:=s3.w.bk.1
     refine lW ?_
     have s4:=s3.put (x':=jv ({x with bH:=(k':Int),tasks:=x.tasks.set k' {t with pc:=2}})) (h':=AH.upd h_ B ⟨_,0,0⟩) (kC hb_) kS
     (repeat' first|refine vsw ?_|(with_reducible refine aZ ?_)|(with_reducible refine bD ?_)|((with_reducible refine aC ?_);first|refine bn (by omega) ?_|refine bq (by omega) (by omega) ?_)|(refine br ?_ ?_<;>first|exact bx|intro _)|((with_reducible refine aC ?_);((first|refine ix ?_|refine ixi ?_|(refine ixg ?_;intro _ _)|(refine aL ?_;intro _ _));first|rintro _ _ _ _ _ ⟨rfl,rfl⟩ _|rintro _ _ _ _ _ ⟨_,rfl,_⟩ _|rintro _ _ _ _ _ ⟨_,_,_,_,rfl,rfl,_,_⟩ _|intro _ _ _ _ _ _ _))|(refine sx ?_;intro _ _)|((with_reducible refine aJ ?_);simp only[g0,g1,g2]))
     exact Fw w bz e (by omega) s4
    ·rw[if_pos (by omega)]
     (repeat' first|refine vsx ?_|(with_reducible refine aZ ?_)|(with_reducible refine bD ?_)|((with_reducible refine aC ?_);first|refine bn (by omega) ?_|refine bq (by omega) (by omega) ?_)|(refine br ?_ ?_<;>first|exact bx|intro _)|((with_reducible refine aC ?_);((first|refine ix ?_|refine ixi ?_|(refine ixg ?_;intro _ _)|(refine aL ?_;intro _ _));first|rintro _ _ _ _ _ ⟨rfl,rfl⟩ _|rintro _ _ _ _ _ ⟨_,rfl,_⟩ _|rintro _ _ _ _ _ ⟨_,_,_,_,rfl,rfl,_,_⟩ _|intro _ _ _ _ _ _ _))|(refine sx ?_;intro _ _)|((with_reducible refine aJ ?_);simp only[g0,g1,g2]))
     all_goals try(exfalso;omega)
     refine s.jY {x with bH:=(k':Int)} (fun x1 e1 s1=>?_) gZ (by rfl)
     have ht1:x1.tasks[k']? =some t:=by rw[e1];exact ht
     obtain⟨fT,fQ,lg,kZ,nT,et,mq,mo,lH,kF,nS,nP,nR,nU,jR,iZ⟩:=s1.iX (bb:=b9) (off:=o9) ht1 rfl;have et:EK Task _ _ _ b9 (o9+k' * 12) [.int .i64 t.op,.int .i64 t.pc,.int .i64 t.s.trace,.int .i64 t.s.id,.int .i64 t.s.start,.int .i64 t.s.fin,.bool t.s.err,fT,.int .i64 t.trace,.int .i64 t.stamp,fQ,.int .i64 t.h] _ _ _ _:=et
     (repeat' first|((with_reducible refine fu ?_);refine EK.st_ (et.ext aG) (by rfl) (by rfl) dB ?_;intro h_ et k_ n_)|refine vsx ?_|(with_reducible refine aZ ?_)|(with_reducible refine bD ?_)|((with_reducible refine aC ?_);first|refine bn (by omega) ?_|refine bq (by omega) (by omega) ?_)|(refine br ?_ ?_<;>first|exact bx|intro _)|((with_reducible refine aC ?_);((first|refine ix ?_|refine ixi ?_|(refine ixg ?_;intro _ _)|(refine aL ?_;intro _ _));first|rintro _ _ _ _ _ ⟨rfl,rfl⟩ _|rintro _ _ _ _ _ ⟨_,rfl,_⟩ _|rintro _ _ _ _ _ ⟨_,_,_,_,rfl,rfl,_,_⟩ _|intro _ _ _ _ _ _ _))|(refine sx ?_;intro _ _)|((with_reducible refine aJ ?_);simp only[g0,g1,g2]))
     obtain⟨x3,F3,e3,s3,m3⟩:=iZ _ {t with pc:=2} rfl rfl et
     exact vJ w bz rfl e (by omega) s3.mv.kp (zR x hs0) r0'
   ·have eS:eZ x k' t=some (jW x k' t):=by unfold eZ;rw[if_neg (by omega),if_neg (by omega),if_pos hp]
    rw[eS]
    have hh0:t.hand=[]:=by
     have q:=hT.2.2.1.2
     cases hq:t.hand with
     |nil=>rfl
     |cons a l=>rw[hq] at q;have:=q.2 (by simp only[List.length_cons];omega);omega
    (repeat' first|refine vsx ?_|(with_reducible refine aZ ?_)|(with_reducible refine bD ?_)|((with_reducible refine aC ?_);first|refine bn (by omega) ?_|refine bq (by omega) (by omega) ?_)|(refine br ?_ ?_<;>first|exact bx|intro _)|((with_reducible refine aC ?_);((first|refine ix ?_|refine ixi ?_|(refine ixg ?_;intro _ _)|(refine aL ?_;intro _ _));first|rintro _ _ _ _ _ ⟨rfl,rfl⟩ _|rintro _ _ _ _ _ ⟨_,rfl,_⟩ _|rintro _ _ _ _ _ ⟨_,_,_,_,rfl,rfl,_,_⟩ _|intro _ _ _ _ _ _ _))|(refine sx ?_;intro _ _)|((with_reducible refine aJ ?_);simp only[g0,g1,g2]))
    all_goals try(exfalso;omega)
    refine aT (ais w ht hd htk.1 hh0 h1 hs1 hI.VA) ?_
    rintro _ h2 ⟨rfl,W⟩
    rw[alL hI ht hg hp] at W
    obtain⟨V2,F2,s2,kk,-⟩:=s.call W
    obtain⟨z,hz,s2⟩:=s2.gen
    obtain⟨y0,y1,y2,y3,y4,y5,y6,y7,y8,y9,y10⟩:=V2
    have bB2:Bk h2 B [AV.int .i64 z.c.bZ,AV.int .i64 z.c.wait,AV.int .i64 z.c.budget,AV.int .i64 z.c.cache,AV.int .i64 z.c.queue,AV.int .i64 z.c.rate,AV.int .i64 z.c.aW,AV.int .i64 z.c.rule.kind,AV.int .i64 z.c.rule.n,AV.str z.c.rule.key,AV.str z.c.rule.text,y0,AV.int .i64 z.time,AV.bool z.shut,y1,AV.int .i64 z.bH,AV.int .i64 z.b.rate,AV.int .i64 z.b.aW,AV.int .i64 z.b.tokens,AV.int .i64 z.b.at_,y2,AV.int .i64 z.used,AV.int .i64 z.w.now,y3,y4,y5,y6,y7,y8,y9,y10,AV.int .i64 z.next] 0:=s2.w.bk
    have bz2:=bR kk bz nz
    (repeat' first|refine vsx ?_|(with_reducible refine aZ ?_)|(with_reducible refine bD ?_)|((with_reducible refine aC ?_);first|refine bn (by omega) ?_|refine bq (by omega) (by omega) ?_)|(refine br ?_ ?_<;>first|exact bx|intro _)|((with_reducible refine aC ?_);((first|refine ix ?_|refine ixi ?_|(refine ixg ?_;intro _ _)|(refine aL ?_;intro _ _));first|rintro _ _ _ _ _ ⟨rfl,rfl⟩ _|rintro _ _ _ _ _ ⟨_,rfl,_⟩ _|rintro _ _ _ _ _ ⟨_,_,_,_,rfl,rfl,_,_⟩ _|intro _ _ _ _ _ _ _))|(refine sx ?_;intro _ _)|((with_reducible refine aJ ?_);simp only[g0,g1,g2]))
    have hb_:=s2.w.bk.1
    refine lW ?_
    have s4:=s2.put (x':=jv (z)) (h':=AH.upd h2 B ⟨_,0,0⟩) (kC hb_) kS
    subst hz
    (repeat' first|refine vsw ?_|(with_reducible refine aZ ?_)|(with_reducible refine bD ?_)|((with_reducible refine aC ?_);first|refine bn (by omega) ?_|refine bq (by omega) (by omega) ?_)|(refine br ?_ ?_<;>first|exact bx|intro _)|((with_reducible refine aC ?_);((first|refine ix ?_|refine ixi ?_|(refine ixg ?_;intro _ _)|(refine aL ?_;intro _ _));first|rintro _ _ _ _ _ ⟨rfl,rfl⟩ _|rintro _ _ _ _ _ ⟨_,rfl,_⟩ _|rintro _ _ _ _ _ ⟨_,_,_,_,rfl,rfl,_,_⟩ _|intro _ _ _ _ _ _ _))|(refine sx ?_;intro _ _)|((with_reducible refine aJ ?_);simp only[g0,g1,g2]))
    exact Fw w bz e (by omega) s4
   ·have eS:eZ x k' t=mg x k' t:=by unfold eZ;rw[if_neg (by omega),if_neg (by omega),if_neg (by omega)]
    rw[eS]
    obtain⟨y,ys,hyy⟩:∃ y ys,t.hand=y::ys:=by
     cases hq:t.hand with
     |nil=>have:=hT.2.2.1.2.1 hp;rw[hq] at this;simp at this
     |cons a l=>exact⟨a,l,rfl⟩
    (repeat' first|refine vsx ?_|(with_reducible refine aZ ?_)|(with_reducible refine bD ?_)|((with_reducible refine aC ?_);first|refine bn (by omega) ?_|refine bq (by omega) (by omega) ?_)|(refine br ?_ ?_<;>first|exact bx|intro _)|((with_reducible refine aC ?_);((first|refine ix ?_|refine ixi ?_|(refine ixg ?_;intro _ _)|(refine aL ?_;intro _ _));first|rintro _ _ _ _ _ ⟨rfl,rfl⟩ _|rintro _ _ _ _ _ ⟨_,rfl,_⟩ _|rintro _ _ _ _ _ ⟨_,_,_,_,rfl,rfl,_,_⟩ _|intro _ _ _ _ _ _ _))|(refine sx ?_;intro _ _)|((with_reducible refine aJ ?_);simp only[g0,g1,g2]))
    all_goals try(exfalso;omega)
    refine aT (aeZ w ht hd htk.1 hyy hs1) ?_
    intro v2 h2 hst
    cases hL:mg x k' t with
    |none=>
     rw[hL] at hst
     obtain⟨rfl,kk⟩:=hst
     have bx2:=bR kk bx nx
     (repeat' first|refine vsx ?_|(with_reducible refine aZ ?_)|(with_reducible refine bD ?_)|((with_reducible refine aC ?_);first|refine bn (by omega) ?_|refine bq (by omega) (by omega) ?_)|(refine br ?_ ?_<;>first|exact bx|intro _)|((with_reducible refine aC ?_);((first|refine ix ?_|refine ixi ?_|(refine ixg ?_;intro _ _)|(refine aL ?_;intro _ _));first|rintro _ _ _ _ _ ⟨rfl,rfl⟩ _|rintro _ _ _ _ _ ⟨_,rfl,_⟩ _|rintro _ _ _ _ _ ⟨_,_,_,_,rfl,rfl,_,_⟩ _|intro _ _ _ _ _ _ _))|(refine sx ?_;intro _ _)|((with_reducible refine aJ ?_);simp only[g0,g1,g2]))
     exact vJ w bz rfl e (by omega) kk (zR x hs0) r0'
    |some z=>
     rw[hL] at hst
     obtain⟨rfl,W⟩:=hst
     obtain⟨V2,F2,s2,kk,-⟩:=s.call W
     obtain⟨y0,y1,y2,y3,y4,y5,y6,y7,y8,y9,y10⟩:=V2
     have bB2:Bk h2 B [AV.int .i64 z.c.bZ,AV.int .i64 z.c.wait,AV.int .i64 z.c.budget,AV.int .i64 z.c.cache,AV.int .i64 z.c.queue,AV.int .i64 z.c.rate,AV.int .i64 z.c.aW,AV.int .i64 z.c.rule.kind,AV.int .i64 z.c.rule.n,AV.str z.c.rule.key,AV.str z.c.rule.text,y0,AV.int .i64 z.time,AV.bool z.shut,y1,AV.int .i64 z.bH,AV.int .i64 z.b.rate,AV.int .i64 z.b.aW,AV.int .i64 z.b.tokens,AV.int .i64 z.b.at_,y2,AV.int .i64 z.used,AV.int .i64 z.w.now,y3,y4,y5,y6,y7,y8,y9,y10,AV.int .i64 z.next] 0:=s2.w.bk
     have bz2:=bR kk bz nz
     (repeat' first|refine vsx ?_|(with_reducible refine aZ ?_)|(with_reducible refine bD ?_)|((with_reducible refine aC ?_);first|refine bn (by omega) ?_|refine bq (by omega) (by omega) ?_)|(refine br ?_ ?_<;>first|exact bx|intro _)|((with_reducible refine aC ?_);((first|refine ix ?_|refine ixi ?_|(refine ixg ?_;intro _ _)|(refine aL ?_;intro _ _));first|rintro _ _ _ _ _ ⟨rfl,rfl⟩ _|rintro _ _ _ _ _ ⟨_,rfl,_⟩ _|rintro _ _ _ _ _ ⟨_,_,_,_,rfl,rfl,_,_⟩ _|intro _ _ _ _ _ _ _))|(refine sx ?_;intro _ _)|((with_reducible refine aJ ?_);simp only[g0,g1,g2]))
     have hb_:=s2.w.bk.1
     refine lW ?_
     have s4:=s2.put (x':=jv (z)) (h':=AH.upd h2 B ⟨_,0,0⟩) (kC hb_) kS
     (repeat' first|refine vsw ?_|(with_reducible refine aZ ?_)|(with_reducible refine bD ?_)|((with_reducible refine aC ?_);first|refine bn (by omega) ?_|refine bq (by omega) (by omega) ?_)|(refine br ?_ ?_<;>first|exact bx|intro _)|((with_reducible refine aC ?_);((first|refine ix ?_|refine ixi ?_|(refine ixg ?_;intro _ _)|(refine aL ?_;intro _ _));first|rintro _ _ _ _ _ ⟨rfl,rfl⟩ _|rintro _ _ _ _ _ ⟨_,rfl,_⟩ _|rintro _ _ _ _ _ ⟨_,_,_,_,rfl,rfl,_,_⟩ _|intro _ _ _ _ _ _ _))|(refine sx ?_;intro _ _)|((with_reducible refine aJ ?_);simp only[g0,g1,g2]))
     exact Fw w bz e (by omega) s4
  ·rw[xJ fun c=>hg (by obtain⟨t',ht',q⟩:=c.2.2;simp only[Int.toNat_natCast] at ht';rw[ht] at ht';cases ht';exact q)]
   (repeat' first|refine vs ?_|(refine br ?_ ?_<;>first|exact bx|intro _)|((with_reducible refine aB tT ?_);(refine aX (IJ (x:=x) ok hs0 ⟨_,_,_,_,_,_,_,_,_,_,_,_,_,_,_,_,_,_,_,_,_,_,rfl,rfl,ah,ah,ah,ah,ah,ah,ah,ah,ah,ah,ah⟩) ?_ ?_<;>intro hn))|((with_reducible refine aB bK ?_);(refine cK (eY) ?_ ?_<;>intro hb<;>(first|replace hb:=dx hb|replace hb:=dz hb)))|((with_reducible refine aC ?_);((first|refine ix ?_|refine ixi ?_|(refine ixg ?_;intro _ _)|(refine aL ?_;intro _ _));first|rintro _ _ _ _ _ ⟨rfl,rfl⟩ _|rintro _ _ _ _ _ ⟨_,rfl,_⟩ _|rintro _ _ _ _ _ ⟨_,_,_,_,rfl,rfl,_,_⟩ _|intro _ _ _ _ _ _ _))|(refine sx ?_;intro _ _)|((with_reducible refine aJ ?_);simp only[g0,g1,g2]))
   all_goals first
    |(exfalso;first|omega|exact absurd hw.1 (by assumption))
    |exact Fz w bz e (by omega)
 ·rw[xJ fun c=>hw ⟨c.1,by have:=c.2.1;omega⟩]
  (repeat' first|refine vs ?_|(refine br ?_ ?_<;>first|exact bx|intro _)|((with_reducible refine aB tT ?_);(refine aX (IJ (x:=x) ok hs0 ⟨_,_,_,_,_,_,_,_,_,_,_,_,_,_,_,_,_,_,_,_,_,_,rfl,rfl,ah,ah,ah,ah,ah,ah,ah,ah,ah,ah,ah⟩) ?_ ?_<;>intro hn))|((with_reducible refine aB bK ?_);(refine cK (eY) ?_ ?_<;>intro hb<;>(first|replace hb:=dx hb|replace hb:=dz hb)))|((with_reducible refine aC ?_);((first|refine ix ?_|refine ixi ?_|(refine ixg ?_;intro _ _)|(refine aL ?_;intro _ _));first|rintro _ _ _ _ _ ⟨rfl,rfl⟩ _|rintro _ _ _ _ _ ⟨_,rfl,_⟩ _|rintro _ _ _ _ _ ⟨_,_,_,_,rfl,rfl,_,_⟩ _|intro _ _ _ _ _ _ _))|(refine sx ?_;intro _ _)|((with_reducible refine aJ ?_);simp only[g0,g1,g2]))
  all_goals first
   |exact absurd ⟨by assumption,by omega⟩ hw
   |exact Fz w bz e (by omega)
end Go.Proofs.YtekfdoknfcedpaaGreat
