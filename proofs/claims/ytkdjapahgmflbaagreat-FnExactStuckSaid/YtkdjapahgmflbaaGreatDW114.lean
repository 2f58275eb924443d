import Derived.Test.YtkdjapahgmflbaaGreatDW110
import Derived.Test.YtkdjapahgmflbaaGreatDW111
import Derived.Test.YtkdjapahgmflbaaGreatDW60
section
set_option linter.unusedSimpArgs false
set_option linter.unusedVariables false
set_option maxHeartbeats 4000000
set_option maxRecDepth 20000
namespace Go.Proofs.YtkdjapahgmflbaaGreat
open Go Go.Ab Go.RowKit
attribute[local irreducible] cZ
section
def PE (x0 x1:AV):Prog:=.op (.box x0) fun a=>.op (.alloc jE) fun b=>Ld 32 a fun c=>Cl rX [c] fun c=>.op (.alloc jE) fun d=>.op (.st 32 d c) fun _=>Ld 32 a fun c=>Cl jI [c] fun c=>.op (.una .not c) fun c=>.gop c false (.mv x1) fun e=>.gop c false (.call bq [e,.int .i64 0,.int .i64 4]) fun e=>.gop c false (.una .not e) fun e=>Pk c (.bool true) e fun c=>Gf c false 29 a fun e=>.gop c false (.mv x1) fun f=>.gop c false (.idx 12 e f) fun e=>Gf c false 0 e fun e=>.gop c false (.bin 0 .neq e (.int .i64 2)) fun e=>Pk c (.bool true) e fun c=>.ite c (Ld 32 d fun a=>.op (.st 32 b a) fun _=>.fin [.cn 32 b,.val (.bool false)]) (Lg 29 d fun c=>Ix 12 c x1 fun c=>Lf 1 c fun e=>Bn .eql e (.int .i64 0) fun f=>.scope (.ite f (Lf 8 c fun a=>Cl zP [d,x1,a] fun a=>Sf 1 c (.int .i64 1) fun _=>.leaf 0 [a]) (Bn .eql e (.int .i64 1) fun a=>.scope (.ite a (Lg 15 d fun a=>.op (.bin 0 .eql a (.int .i64 (-1))) fun a=>Sg 15 d x1 fun _=>Sf 1 c (.int .i64 2) fun _=>.leaf 0 [a]) (Bn .eql e (.int .i64 2) fun a=>.scope (.ite a (Cl K3 [d,x1] fun _=>.leaf 0 [.bool true]) (Cl Kn [d,x1] fun a=>.leaf 0 [a])) (fun a=>.leaf 0 [g a 0]) fun a b=>aB a 1 (.leaf 1 b) .bad)) (fun a=>.leaf 0 [g a 0]) fun a b=>aB a 1 (.leaf 1 b) .bad)) (fun c=>.op (.una .not (g c 0)) fun c=>.ite c (Ld 32 a fun a=>Cl rX [a] fun a=>.op (.st 32 b a) fun _=>.fin [.cn 32 b,.val (.bool false)]) (Lg 12 d fun a=>Bn .add a (.int .i64 1) fun a=>Sg 12 d a fun _=>Ld 32 d fun a=>.op (.st 32 b a) fun _=>.fin [.cn 32 b,.val (.bool true)])) fun a b=>aB a 1 (.leaf 1 b) .bad)
theorem acj (x0 x1:AV):CC Tryz.prog Jy [x0,x1] (PE x0 x1):=cc Tryz.func38 [2,4,6,8] (fun _=>[])
end
theorem alU {x:Wld} {k:Nat} {t:Task} (h:WI x) (ht:x.tasks[k]? =some t) (hop:t.op=2) (hpc:t.pc=2):uD x k t=nU x k t:=by
 have hh:eP t x.st.length=stripe t.trace x.st.length:=WK h.st.1.1 (.inr ⟨hop,.inr hpc⟩)
 unfold uD nU
 by_cases hit:vY x t
 ·rw[fI hit,if_pos rfl,if_pos rfl]
  obtain⟨o,ho⟩:∃ o,fq x.st t.trace=some o:=by have:=hit.1;unfold eG at this;exact Option.isSome_iff_exists.1 this
  have hoo:=(mV ho).1
  have hid:=(WM ho).2
  have ho':fq x.st o.id=some o:=by rw[hid];exact ho
  unfold ltI wL
  have e:mG k (gN x.st o.id)=gy (gN x.st o.id) t.trace (-1):=by
   refine xX h.st.1.1 yD (fun i s' hs'=>?_) (yI h ht hh)
   obtain⟨s,hs,he,-⟩:=WU ho' hs'
   exact⟨s,hs,he⟩
  rw[hoo]
  have e2:∀ K,mG k (mQ x o K).st=gy (mQ x o K).st t.trace (-1):=fun K=>e
  simp only[e2]
 ·rw[gu hit,if_neg (by decide),if_neg (by decide)]
  unfold ltI wL
  rw[xX h.st.1.1 rfl xW (yI h ht hh)]
theorem abr {h:AH} {x:Wld} {cs:List AV} {F:List Nat} {k:Int} (ok:Cel.ok x) (hs:Sz.sz x≤33554432) (r:Cel.rep h x cs F):bN Tryz.prog Jy [.agg cs,.int .i64 k] h (nu h (yK x k).1 (yK x k).2):=by
 have hs0:Sz.sz x≤67108864:=by omega
 have hs1:=hs
 have hs:=hs0
 have r0':=r
 obtain⟨v0,v1,v2,v3,v4,v5,v6,v7,v8,v9,v10,F0,F1,F2,F3,F4,F5,F6,F7,F8,F9,F10,rfl,rfl,r0,r1,r2,r3,r4,r5,r6,r7,r8,r9,r10⟩:=r
 have hs:Sz.sz x.c+(x.st.length+szs x.st)+(x.cache.length+szs x.cache)+Sz.sz x.w+(x.due.length+szs x.due)+(x.queue.length+szs x.queue)+(x.out.length+szs x.out)+(x.tasks.length+szs x.tasks)+(x.aF.length+szs x.aF)≤67108864:=hs
 have hl1:=r1.small
 have hl9:=r9.small
 refine acj _ _ ?_
 unfold PE
 refine prolog (oC x hs0) r0' ?_
 intro H B V G e nB hB bx bz w
 have bB:Bk H B [AV.int .i64 x.c.eU,AV.int .i64 x.c.wait,AV.int .i64 x.c.budget,AV.int .i64 x.c.cache,AV.int .i64 x.c.queue,AV.int .i64 x.c.rate,AV.int .i64 x.c.bn,AV.int .i64 x.c.rule.kind,AV.int .i64 x.c.rule.n,AV.str x.c.rule.key,AV.str x.c.rule.text,V.v0,AV.int .i64 x.time,AV.bool x.shut,V.v1,AV.int .i64 x.bS,AV.int .i64 x.b.rate,AV.int .i64 x.b.bn,AV.int .i64 x.b.tokens,AV.int .i64 x.b.at_,V.v2,AV.int .i64 x.used,AV.int .i64 x.w.now,V.v3,V.v4,V.v5,V.v6,V.v7,V.v8,V.v9,V.v10,AV.int .i64 x.next] 0:=w.bk
 by_cases hw:mO x∧(0≤k∧k≤4)
 ·have h5:=hw.1.2.1
  obtain⟨t,ht,-,-⟩:=aP (show k.toNat < x.tasks.length by omega)
  obtain⟨k',rfl⟩:∃ k':Nat,k=k':=⟨k.toNat,by omega⟩
  simp only[Int.toNat_natCast] at ht
  have hI:=xL.1 hw.1
  by_cases hg:t.op=2
  ·have hT:=task2 hI ht hg
   have hk3:=hT.2.1
   rw[VO ⟨hw.1,⟨by omega,by omega⟩,t,ht,hg⟩ ht]
   obtain⟨d,hd,-,-⟩:=hI.own ht (by omega)
   have htk:=(hI.tasks k' t ht).1.1
   have h1:=hI.n1
   (repeat' first|refine vs ?_|(refine br ?_ ?_<;>first|exact bo|intro _)|((with_reducible refine aA jI ?_);(refine aS (ny (x:=x) ok hs0 ⟨_,_,_,_,_,_,_,_,_,_,_,_,_,_,_,_,_,_,_,_,_,_,rfl,rfl,ah,ah,ah,ah,ah,ah,ah,ah,ah,ah,ah⟩) ?_ ?_<;>intro hn))|((with_reducible refine aA bq ?_);(refine bU (eZ) ?_ ?_<;>intro hb<;>(first|replace hb:=dx hb|replace hb:=dz hb)))|((with_reducible refine aY ?_);((refine ix ?_);rintro _ _ _ _ _ ⟨_,_,_,_,rfl,rfl,_,_⟩ _))|fail)
   all_goals try(exfalso;first|omega|exact absurd hw.1 (by assumption))
   obtain⟨y0,y1,y2,y3,y4,y5,y6,y7,y8,y9,y10⟩:=V
   obtain⟨b9,o9,e9⟩:=w.r9.sl ht
   have e9:y9= .sl b9 o9 x.tasks.length:=e9
   subst e9
   have l9:b9 < _:=dZ w.r9
   have bB:=bkE w
   have hbB:=bB.1
   have hkk:k' < x.tasks.length:=by omega
   have s:=w.ws
   obtain⟨dI,dJ,dU,j6,kG,ek,j5,j4,kH,iT,kF,kD,kE,jT,jk,gW⟩:=s.dL (bb:=b9) (off:=o9) ht rfl;have ek:EK Task _ _ _ b9 (o9+k' * 12) [.int .i64 t.op,.int .i64 t.pc,.int .i64 t.s.trace,.int .i64 t.s.id,.int .i64 t.s.start,.int .i64 t.s.fin,.bool t.s.err,dI,.int .i64 t.trace,.int .i64 t.stamp,dJ,.int .i64 t.h] _ _ _ _:=ek
   have at9:=ek.at_
   have hBo:∀ c∈B::G.a,h.n+1+1≤c:=fun c hc=>by
    rcases List.mem_cons.1 hc with q|q
    ·omega
    ·exact(w.own.1.2 c q).1
   have nx:h.n ∉ B::G.a:=fun hm=>by have:=hBo _ hm;omega
   have nz:h.n+1 ∉ B::G.a:=fun hm=>by have:=hBo _ hm;omega
   have hcs:t.pc=0∨t.pc=1∨t.pc=2∨t.pc=3:=by have:=htk.2.1;omega
   rcases hcs with hp|hp|hp|hp
   ·have eS:iG x k' t=if iB x t.trace≠-1 then none else some {x with st:=gy x.st t.trace k',tasks:=x.tasks.set k' {t with pc:=1}}:=by unfold iG;rw[if_pos hp]
    rw[eS]
    (repeat' first|refine vsx ?_|refine ao4 ?_|(refine br ?_ ?_<;>first|exact bo|intro _)|fail)
    all_goals try(exfalso;omega)
    refine aK (Jf (tr:=t.trace) w h1) ?_
    rintro v2 h2 ⟨hy,hn⟩
    by_cases hf:iB x t.trace= -1
    ·rw[if_neg (by omega)]
     obtain⟨rfl,W⟩:=hy hf
     obtain⟨V2,F2,s2,e2v,-,kk,-,-⟩:=ni s W
     obtain⟨x2,hx2,s2⟩:=s2.gen
     obtain⟨y0,y1,y2,y3,y4,y5,y6,y7,y8,y9,y10⟩:=V2
     have e2v:y9= .sl b9 o9 x.tasks.length:=e2v
     subst e2v
     have ht2:x2.tasks[k']? =some t:=by rw[hx2];exact ht
     obtain⟨bZ,bY,gF,gD,gU,et,gM,gL,gI,fZ,gT,gP,gQ,gV,fF,dH⟩:=s2.dL (bb:=b9) (off:=o9) ht2 rfl;have et:EK Task _ _ _ b9 (o9+k' * 12) [.int .i64 t.op,.int .i64 t.pc,.int .i64 t.s.trace,.int .i64 t.s.id,.int .i64 t.s.start,.int .i64 t.s.fin,.bool t.s.err,bZ,.int .i64 t.trace,.int .i64 t.stamp,bY,.int .i64 t.h] _ _ _ _:=et
     have bB2:=bkE s2.w
     have bz2:=bF kk bz nz
     (repeat' first|((with_reducible refine bW ?_);refine EK.st_ (et.ext aD) (by rfl) (by rfl) aX ?_;intro h_ et k_ n_)|refine vsx ?_|(with_reducible refine aW ?_)|refine gS ?_|fail)
     obtain⟨x3,F3,e3,s3,m3⟩:=dH _ {t with pc:=1} rfl rfl et
     subst e3
     subst hx2
     have hb_:=s3.w.bk.1
     refine eu ?_
     have s4:=s3.put (x':=fu ({x with st:=gy x.st t.trace k',tasks:=x.tasks.set k' {t with pc:=1}})) (h':=AH.upd h_ B ⟨_,0,0⟩) (fP hb_) fO
     (repeat' first|refine vsw ?_|fail)
     exact qW w bz e (by omega) s4
    ·rw[if_pos (by omega)]
     obtain⟨rfl,e2⟩:=hn hf
     (repeat' first|((with_reducible refine bW ?_);refine EK.st_ (ek.ext aD) (by rfl) (by rfl) aX ?_;intro h_ ek k_ n_)|refine vsx ?_|(with_reducible refine aW ?_)|refine gS ?_|fail)
     obtain⟨x3,F3,e3,s3,m3⟩:=gW _ {t with pc:=1} rfl rfl ek
     exact uf w bz rfl e (by omega) s3.mv.kp (oC x hs0) r0'
   ·have eS:iG x k' t=if x.bS≠-1 then none else some {x with bS:=(k':Int),tasks:=x.tasks.set k' {t with pc:=2}}:=by unfold iG;rw[if_neg (by omega),if_pos hp]
    rw[eS]
    by_cases hf:x.bS= -1
    ·rw[if_neg (by omega)]
     (repeat' first|refine vsx ?_|refine ao4 ?_|(refine br ?_ ?_<;>first|exact bo|intro _)|fail)
     all_goals try(exfalso;omega)
     refine s.iR {x with bS:=(k':Int)} (fun x1 e1 s1=>?_) iq (by rfl)
     have ht1:x1.tasks[k']? =some t:=by rw[e1];exact ht
     obtain⟨bZ,bY,gF,gD,gU,et,gM,gL,gI,fZ,gT,gP,gQ,gV,fF,dH⟩:=s1.dL (bb:=b9) (off:=o9) ht1 rfl;have et:EK Task _ _ _ b9 (o9+k' * 12) [.int .i64 t.op,.int .i64 t.pc,.int .i64 t.s.trace,.int .i64 t.s.id,.int .i64 t.s.start,.int .i64 t.s.fin,.bool t.s.err,bZ,.int .i64 t.trace,.int .i64 t.stamp,bY,.int .i64 t.h] _ _ _ _:=et
     (repeat' first|((with_reducible refine bW ?_);refine EK.st_ (et.ext aD) (by rfl) (by rfl) aX ?_;intro h_ et k_ n_)|refine vsx ?_|refine gS ?_|fail)
     obtain⟨x3,F3,e3,s3,m3⟩:=dH _ {t with pc:=2} rfl rfl et
     subst e3
     subst e1
     have hb_:=s3.w.bk.1
     refine eu ?_
     have s4:=s3.put (x':=fu ({x with bS:=(k':Int),tasks:=x.tasks.set k' {t with pc:=2}})) (h':=AH.upd h_ B ⟨_,0,0⟩) (fP hb_) fO
     (repeat' first|refine vsw ?_|fail)
     exact qW w bz e (by omega) s4
    ·rw[if_pos (by omega)]
     (repeat' first|refine vsx ?_|refine ao4 ?_|(refine br ?_ ?_<;>first|exact bo|intro _)|fail)
     all_goals try(exfalso;omega)
     refine s.iR {x with bS:=(k':Int)} (fun x1 e1 s1=>?_) iq (by rfl)
     have ht1:x1.tasks[k']? =some t:=by rw[e1];exact ht
     obtain⟨bZ,bY,gF,gD,gU,et,gM,gL,gI,fZ,gT,gP,gQ,gV,fF,dH⟩:=s1.dL (bb:=b9) (off:=o9) ht1 rfl;have et:EK Task _ _ _ b9 (o9+k' * 12) [.int .i64 t.op,.int .i64 t.pc,.int .i64 t.s.trace,.int .i64 t.s.id,.int .i64 t.s.start,.int .i64 t.s.fin,.bool t.s.err,bZ,.int .i64 t.trace,.int .i64 t.stamp,bY,.int .i64 t.h] _ _ _ _:=et
     (repeat' first|((with_reducible refine bW ?_);refine EK.st_ (et.ext aD) (by rfl) (by rfl) aX ?_;intro h_ et k_ n_)|refine vsx ?_|refine gS ?_|fail)
     obtain⟨x3,F3,e3,s3,m3⟩:=dH _ {t with pc:=2} rfl rfl et
     exact uf w bz rfl e (by omega) s3.mv.kp (oC x hs0) r0'
   ·have eS:iG x k' t=some (nU x k' t):=by unfold iG;rw[if_neg (by omega),if_neg (by omega),if_pos hp]
    rw[eS]
    have hh0:t.hand=[]:=by
     have q:=hT.2.2.1.2
     cases hq:t.hand with
     |nil=>rfl
     |cons a l=>rw[hq] at q;have:=q.2 (by simp only[List.length_cons];omega);omega
    (repeat' first|refine vsx ?_|refine ao4 ?_|(refine br ?_ ?_<;>first|exact bo|intro _)|fail)
    all_goals try(exfalso;omega)
    refine aK (ah6 w ht hd htk.1 hh0 h1 hs1 hI.H7) ?_
    rintro _ h2 ⟨rfl,W⟩
    rw[alU hI ht hg hp] at W
    obtain⟨V2,F2,s2,kk,-⟩:=s.call W
    obtain⟨z,hz,s2⟩:=s2.gen
    obtain⟨y0,y1,y2,y3,y4,y5,y6,y7,y8,y9,y10⟩:=V2
    have bB2:=bkE s2.w
    have bz2:=bF kk bz nz
    (repeat' first|refine vsx ?_|refine gS ?_|fail)
    have hb_:=s2.w.bk.1
    refine eu ?_
    have s4:=s2.put (x':=fu (z)) (h':=AH.upd h2 B ⟨_,0,0⟩) (fP hb_) fO
    subst hz
    (repeat' first|refine vsw ?_|fail)
    exact qW w bz e (by omega) s4
   ·have eS:iG x k' t=qY x k' t:=by unfold iG;rw[if_neg (by omega),if_neg (by omega),if_neg (by omega)]
    rw[eS]
    obtain⟨y,ys,hyy⟩:∃ y ys,t.hand=y::ys:=by
     cases hq:t.hand with
     |nil=>have:=hT.2.2.1.2.1 hp;rw[hq] at this;simp at this
     |cons a l=>exact⟨a,l,rfl⟩
    (repeat' first|refine vsx ?_|refine ao4 ?_|(refine br ?_ ?_<;>first|exact bo|intro _)|fail)
    all_goals try(exfalso;omega)
    refine aK (aev w ht hd htk.1 hyy hs1) ?_
    intro v2 h2 hst
    cases hL:qY x k' t with
    |none=>
     rw[hL] at hst
     obtain⟨rfl,kk⟩:=hst
     have bx2:=bF kk bx nx
     (repeat' first|refine vsx ?_|refine gS ?_|fail)
     exact uf w bz rfl e (by omega) kk (oC x hs0) r0'
    |some z=>
     rw[hL] at hst
     obtain⟨rfl,W⟩:=hst
     obtain⟨V2,F2,s2,kk,-⟩:=s.call W
     obtain⟨y0,y1,y2,y3,y4,y5,y6,y7,y8,y9,y10⟩:=V2
     have bB2:=bkE s2.w
     have bz2:=bF kk bz nz
     (repeat' first|refine vsx ?_|refine gS ?_|fail)
     have hb_:=s2.w.bk.1
     refine eu ?_
     have s4:=s2.put (x':=fu (z)) (h':=AH.upd h2 B ⟨_,0,0⟩) (fP hb_) fO
     (repeat' first|refine vsw ?_|fail)
     exact qW w bz e (by omega) s4
  ·rw[VP fun c=>hg (by obtain⟨t',ht',q⟩:=c.2.2;simp only[Int.toNat_natCast] at ht';rw[ht] at ht';cases ht';exact q)]
   (repeat' first|refine vs ?_|(refine br ?_ ?_<;>first|exact bo|intro _)|((with_reducible refine aA jI ?_);(refine aS (ny (x:=x) ok hs0 ⟨_,_,_,_,_,_,_,_,_,_,_,_,_,_,_,_,_,_,_,_,_,_,rfl,rfl,ah,ah,ah,ah,ah,ah,ah,ah,ah,ah,ah⟩) ?_ ?_<;>intro hn))|((with_reducible refine aA bq ?_);(refine bU (eZ) ?_ ?_<;>intro hb<;>(first|replace hb:=dx hb|replace hb:=dz hb)))|((with_reducible refine aY ?_);((refine ix ?_);rintro _ _ _ _ _ ⟨_,_,_,_,rfl,rfl,_,_⟩ _))|fail)
   all_goals first
    |(exfalso;first|omega|exact absurd hw.1 (by assumption))
    |exact qX w bz e (by omega)
 ·rw[VP fun c=>hw ⟨c.1,by have:=c.2.1;omega⟩]
  (repeat' first|refine vs ?_|((with_reducible refine aA jI ?_);(refine aS (ny (x:=x) ok hs0 ⟨_,_,_,_,_,_,_,_,_,_,_,_,_,_,_,_,_,_,_,_,_,_,rfl,rfl,ah,ah,ah,ah,ah,ah,ah,ah,ah,ah,ah⟩) ?_ ?_<;>intro hn))|((with_reducible refine aA bq ?_);(refine bU (eZ) ?_ ?_<;>intro hb<;>(first|replace hb:=dx hb|replace hb:=dz hb)))|refine gS ?_|fail)
  all_goals first
   |exact absurd ⟨by assumption,by omega⟩ hw
   |exact qX w bz e (by omega)
end Go.Proofs.YtkdjapahgmflbaaGreat
end
section
set_option linter.unusedSimpArgs false
set_option linter.unusedVariables false
namespace Go.Proofs.YtkdjapahgmflbaaGreat
open Go Go.Ab
noncomputable def mo (x:Wld) (k:Nat) (t:Task):Option Wld:=
 if t.op=1 then(iF x k t).map fu
 else if t.op=2 then(iG x k t).map fu
 else if(k:Int) < 3∨x.due.length=0 then none else some (wB x k)
end Go.Proofs.YtkdjapahgmflbaaGreat
end
