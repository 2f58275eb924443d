import Derived.Test.YtkdjapahgmflbaaGreatDW71
import Derived.Test.YtkdjapahgmflbaaGreatDKW2
import Derived.Test.YtkdjapahgmflbaaGreatDK5
set_option linter.unusedSimpArgs false
set_option linter.unusedVariables false
set_option maxHeartbeats 2000000
namespace Go.Proofs.YtkdjapahgmflbaaGreat
open Go Go.Ab
attribute[local irreducible] cZ
section
def UD (x0 x1:AV):Prog:=.op (.box x0) fun a=>.op (.alloc jE) fun b=>Ld 32 a fun c=>Cl rX [c] fun c=>.op (.alloc jE) fun d=>.op (.st 32 d c) fun _=>Ld 32 a fun c=>Cl jI [c] fun c=>.op (.una .not c) fun c=>.gop c false (.mv x1) fun e=>.gop c false (.call bq [e,.int .i64 3,.int .i64 4]) fun e=>.gop c false (.una .not e) fun e=>Pk c (.bool true) e fun c=>Gf c false 29 a fun e=>.gop c false (.mv x1) fun f=>.gop c false (.idx 12 e f) fun e=>Gf c false 0 e fun e=>.gop c false (.bin 0 .neq e (.int .i64 0)) fun e=>Pk c (.bool true) e fun c=>Gf c false 26 a fun e=>.gop c false (.len 0 e) fun e=>.gop c false (.bin 0 .eql e (.int .i64 0)) fun e=>Pk c (.bool true) e fun c=>.ite c (Ld 32 d fun a=>.op (.st 32 b a) fun _=>.fin [.cn 32 b,.val (.bool false)]) (Lg 26 a fun c=>Ix 3 c (.int .i64 0) fun c=>Ld 3 c fun c=>.op (.alloc [.int .i64 0,.int .i64 0,.int .i64 0]) fun e=>.op (.st 3 e c) fun _=>Lg 26 d fun c=>.op (.slc 3 c (some (.int .i64 1)) none none) fun c=>Sg 26 d c fun _=>Lg 29 d fun c=>Lg 1 e fun f=>Lg 0 e fun i=>Lg 30 a fun j=>Ln 0 j fun j=>.op (.build gJ [(0,1,.int .i64 2),(8,1,f),(9,1,i),(11,1,j)]) fun f=>Ix 12 c x1 fun c=>.op (.st 12 c f) fun _=>.op (.fad 30 d) fun c=>.op (.ld1 c) fun f=>.op (.fad 1 e) fun i=>.op (.ld1 i) fun j=>.op (.fad 0 e) fun e=>.op (.ld1 e) fun k=>Ld 32 a fun l=>.op (.fad 12 a) fun a=>.op (.ld1 a) fun m=>Cl KU [l] fun l=>.chk (.ld1 c) f (.chk (.ld1 i) j (.chk (.ld1 e) k (.chk (.ld1 a) m (.op (.build iV [(0,1,.int .i64 2),(1,1,x1),(8,1,j),(9,1,k),(16,1,l),(17,1,m),(18,1,.int .i64 (-1)),(19,1,.int .i64 (-1))]) fun a=>.op (.aU 20 1 iV [(0,20,a)]) fun a=>.op (.app 20 168 f a) fun a=>Sg 30 d a fun _=>Lg 12 d fun a=>Bn .add a (.int .i64 1) fun a=>Sg 12 d a fun _=>Ld 32 d fun a=>.op (.st 32 b a) fun _=>.fin [.cn 32 b,.val (.bool true)])))))
theorem aiD (x0 x1:AV):CC Tryz.prog K4 [x0,x1] (UD x0 x1):=cc Tryz.func72 [] (fun r=>if r=7 then[(0,[]),(1,[]),(2,[]),(3,[]),(4,[]),(5,[]),(6,[]),(7,[]),(9,[]),(10,[]),(8,[1,4,6,10]),(11,[]),(12,[]),(13,[]),(14,[]),(15,[])] else[])
end
def Md (x:Wld) (k:Int):Prop:=mO x∧(3≤k∧k≤4)∧(∃ t,x.tasks[k.toNat]? =some t∧t.op=0)∧x.due≠[]
noncomputable def BX (x:Wld) (k:Int):Wld × Bool:=if bp (Md x k)=true then(wB x k.toNat,true) else(x,false)
theorem WZ {x:Wld} {k:Int} (h:Md x k):BX x k=(wB x k.toNat,true):=if_pos (fI h)
theorem Me {x:Wld} {k:Int} (h: ¬ Md x k):BX x k=(x,false):=if_neg (by rw[gu h];decide)
theorem aib {h:AH} {x:Wld} {cs:List AV} {F:List Nat} {k:Int} (ok:Cel.ok x) (hs:Sz.sz x≤67108864) (r:Cel.rep h x cs F):bN Tryz.prog K4 [.agg cs,.int .i64 k] h (nu h (BX x k).1 (BX x k).2):=by
 have hs0:=hs
 have r0':=r
 obtain⟨v0,v1,v2,v3,v4,v5,v6,v7,v8,v9,v10,F0,F1,F2,F3,F4,F5,F6,F7,F8,F9,F10,rfl,rfl,r0,r1,r2,r3,r4,r5,r6,r7,r8,r9,r10⟩:=r
 have hs:Sz.sz x.c+(x.st.length+szs x.st)+(x.cache.length+szs x.cache)+Sz.sz x.w+(x.due.length+szs x.due)+(x.queue.length+szs x.queue)+(x.out.length+szs x.out)+(x.tasks.length+szs x.tasks)+(x.aF.length+szs x.aF)≤67108864:=hs
 have hl1:=r1.small
 have hl9:=r9.small
 refine aiD _ _ ?_
 unfold UD
 refine prolog (oC x hs0) r0' ?_
 intro H B V G e nB hB bx bz w
 have bB:Bk H B [AV.int .i64 x.c.eU,AV.int .i64 x.c.wait,AV.int .i64 x.c.budget,AV.int .i64 x.c.cache,AV.int .i64 x.c.queue,AV.int .i64 x.c.rate,AV.int .i64 x.c.bn,AV.int .i64 x.c.rule.kind,AV.int .i64 x.c.rule.n,AV.str x.c.rule.key,AV.str x.c.rule.text,V.v0,AV.int .i64 x.time,AV.bool x.shut,V.v1,AV.int .i64 x.bS,AV.int .i64 x.b.rate,AV.int .i64 x.b.bn,AV.int .i64 x.b.tokens,AV.int .i64 x.b.at_,V.v2,AV.int .i64 x.used,AV.int .i64 x.w.now,V.v3,V.v4,V.v5,V.v6,V.v7,V.v8,V.v9,V.v10,AV.int .i64 x.next] 0:=w.bk
 by_cases hw:mO x∧(3≤k∧k≤4)
 ·have h5:=hw.1.2.1
  obtain⟨t,ht,-,-⟩:=aP (show k.toNat < x.tasks.length by omega)
  obtain⟨k',rfl⟩:∃ k':Nat,k=k':=⟨k.toNat,by omega⟩
  simp only[Int.toNat_natCast] at ht
  by_cases hg:t.op=0∧0 < x.due.length
  ·obtain⟨td,rest,hd⟩:∃ td rest,x.due=td::rest:=by
    cases hq:x.due with
    |nil=>rw[hq] at hg;simp at hg
    |cons a l=>exact⟨a,l,rfl⟩
   rw[WZ ⟨hw.1,hw.2,⟨t,ht,hg.1⟩,by rw[hd];simp⟩]
   have hdl:x.due.length=rest.length+1:=by rw[hd];rfl
   have r6H:au H v6 x.due F6:=r6.ext e
   have hd0:x.due[0]? =some td:=by rw[hd];rfl
   (repeat' first|refine vs ?_|(refine br ?_ ?_<;>first|exact bo|intro _)|((with_reducible refine aA jI ?_);(refine aS (ny (x:=x) ok hs0 ⟨_,_,_,_,_,_,_,_,_,_,_,_,_,_,_,_,_,_,_,_,_,_,rfl,rfl,ah,ah,ah,ah,ah,ah,ah,ah,ah,ah,ah⟩) ?_ ?_<;>intro hn))|((with_reducible refine aA bq ?_);(refine bU (eZ) ?_ ?_<;>intro hb<;>(first|replace hb:=dx hb|replace hb:=dz hb)))|((with_reducible refine aY ?_);((refine ix ?_);first|rintro _ _ _ _ _ ⟨rfl,rfl⟩ _|rintro _ _ _ _ _ ⟨_,_,_,_,rfl,rfl,_,_⟩ _))|refine gS ?_|fail)
   all_goals try(exfalso;first|omega|exact absurd hw.1 (by assumption))
   rw[Int.toNat_natCast,WY hd]
   have hbB:=bB.1
   have hk:k' < x.tasks.length:=by omega
   have lt:=w.own.2
   have l6:=w.l6.2
   obtain⟨u1,u2,B6,E1,E2,eF,-,-,p2,t2,-,s2⟩:=w.r6.cut (P:=Tryz.prog) w.o6 (show 1≤x.due.length by omega)
   rw[hd,List.drop_succ_cons,List.drop_zero] at p2
   have o62:Own (h.n+1+1) H (B6++E2):=by
    have o:=w.o6
    rw[eF] at o
    exact fK (dA o) (bD (bD o)) (Nat.le_refl _) (Iu (mZ o))
   have m62:∀ c∈B6++E2,c∈G.f6:=fun c hc=>by
    rw[eF]
    rcases List.mem_append.1 hc with q|q
    ·exact List.mem_append_left _ q
    ·exact List.mem_append_right _ (List.mem_append_right _ q)
   refine Iy (s2 _ _ (fun c hc=>(aD:Ext H _).2 c (l6 c (by rw[eF];simp[hc]))) ?_)
   have ano:au H v10 x.aF F10:=r10.ext e
   have n62:B ∉ B6++E2:=fun hm=>w.n6 (m62 B hm)
   (repeat' first|refine vs ?_|fail)
   refine YA (R:=fun h2=>Bk h2 B [AV.int .i64 x.c.eU,AV.int .i64 x.c.wait,AV.int .i64 x.c.budget,AV.int .i64 x.c.cache,AV.int .i64 x.c.queue,AV.int .i64 x.c.rate,AV.int .i64 x.c.bn,AV.int .i64 x.c.rule.kind,AV.int .i64 x.c.rule.n,AV.str x.c.rule.key,AV.str x.c.rule.text,V.v0,AV.int .i64 x.time,AV.bool x.shut,V.v1,AV.int .i64 x.bS,AV.int .i64 x.b.rate,AV.int .i64 x.b.bn,AV.int .i64 x.b.tokens,AV.int .i64 x.b.at_,V.v2,AV.int .i64 x.used,AV.int .i64 x.w.now,V.v3,V.v4,V.v5,u2,V.v7,V.v8,V.v9,V.v10,AV.int .i64 x.next] 0∧Bk h2 H.n [.int .i64 td.id,.int .i64 td.trace,.int .i64 td.at_] 0∧Kp H h2 [B]∧au h2 u2 rest (B6++E2)∧Own (h.n+1+1) h2 (B6++E2)∧H.n+1≤h2.n) ⟨aV,aV,?_,ah,(jO (dN ⟨o62,p2.lt⟩ n62)).1,by simp⟩ ?_
   ·exact((Kp.refl H _).uy (by simp) _).push _
   rintro h2 ⟨b2,bt2,k2,q2,o2,n2⟩
   have bx2:=bF k2 bx (by simp;omega)
   have bz2:=bF k2 bz (by simp;omega)
   have anq:au h2 v10 x.aF F10:=aL k2 ano fun c hc hm=>by have:=r10.lt c hc;have:=List.mem_singleton.1 hm;omega
   have w1:PW (h.n+1+1) h2 B {x with due:=rest} {V with v6:=u2} {G with f6:=B6++E2}:=w.YI b2 (k2.mono fun c hc=>by rw[List.mem_singleton.1 hc];exact List.mem_cons_self) q2 o2 n62 fun c hc=>.inl (m62 c hc)
   have mv1:Mv H.n H B G h2 {G with f6:=B6++E2}:=Mv.ofX k2 (fun c hc=>.inl (List.mem_singleton.1 hc)) (Nat.le_refl _) fun c hc=>.inl ((WF.Y7 hc).elim (fun q=>G.in6 c (m62 c q)) id)
   (repeat' first|refine vs ?_|(refine br ?_ ?_<;>intro _<;>try(exfalso;first|omega|contradiction))|((with_reducible refine aY ?_);((first|refine ix ?_|refine ixi ?_|(refine ixg ?_;intro _ _)|(refine ku ?_;intro _ _));first|rintro _ _ _ _ _ ⟨rfl,rfl⟩ _|rintro _ _ _ _ _ ⟨_,rfl,_⟩ _|rintro _ _ _ _ _ ⟨_,_,_,_,rfl,rfl,_,_⟩ _|intro _ _ _ _ _ _ _))|(refine sx ?_;intro _ _)|refine gS ?_|fail)
   obtain⟨bb,off,_,Fi,R,ev,⟨y0,y1,H0,H1,rfl,rfl,-,-⟩,oF,el,hdj,mR,mF⟩:=w1.r9.elt w1.o9 ht
   have ev:V.v9= .sl bb off x.tasks.length:=ev
   have hF9:∀ c∈G.f9,c < H.n:=w.l9.2
   have oF9:∀ c∈G.f9,h.n+1+1≤c:=fun c hc=>(w.l9.1.2 c hc).1
   have mR9:∀ c∈R,c∈G.f9:=mR
   have hbh:bb < H.n:=hF9 bb (mR9 bb el.mem)
   have hbo:=oF9 bb (mR9 bb el.mem)
   have NV:B≠bb:=fun e=>w.n9 (e▸mR9 bb el.mem)
   have el:Elt Task (h.n+1+1) h2 bb (off+k' * 12) [.int .i64 t.op,.int .i64 t.pc,.int .i64 t.s.trace,.int .i64 t.s.id,.int .i64 t.s.start,.int .i64 t.s.fin,.bool t.s.err,y0,.int .i64 t.trace,.int .i64 t.stamp,y1,.int .i64 t.h] V.v9 x.tasks k' R:=el
   rw[ev]
   refine mK hk ?_
   refine Elt.st0 el rfl rfl aX ?_
   intro h3 el3 k3 n3
   obtain⟨F2,w2,m2,kk2⟩:=w1.IX (y':=⟨2,0,ig,td.trace,td.id,[],x.aF.length⟩) (G:=[]) el3 ⟨.aC,.aC,[],[],rfl,rfl,au.aC,au.aC⟩ Own.nil (by simp) mR (by simp) (k3.mono fun c hc=>by rw[List.mem_singleton.1 hc];exact mR bb el.mem)
   have w2:PW (h.n+1+1) h3 B {x with due:=rest,tasks:=x.tasks.set k' ⟨2,0,ig,td.trace,td.id,[],x.aF.length⟩} {V with v6:=u2} F2:=w2
   have mv2:=mv1.trans (Mv.of kk2 (by omega) fun c hc=>(m2 c hc).elim .inl fun q=>absurd q List.not_mem_nil)
   have bt3:=bF k3 bt2 (by simp;omega)
   have b3:=bF k3 b2 (by simpa using NV)
   have bx3:=bF k3 bx2 (by simp;omega)
   have aoE:au h3 V.v10 x.aF F2.f10:=w2.r10
   clear el el3 b2 bt2 bx2
   have ltx:=Cel.lt r0'
   have rx3:=BL k3 (BL k2 (iW r0' e) fun c hc hm=>by have:=ltx c hc;have:=List.mem_singleton.1 hm;omega) fun c hc hm=>by have:=ltx c hc;have:=List.mem_singleton.1 hm;omega
   (repeat' first|refine vs ?_|fail)
   refine aJ (agG rx3) ?_
   (repeat' first|refine vs ?_|fail)
   refine w2.zn (a:=⟨2,k',ig,td.trace,td.id,0,false,false,0,0,0,x.w.now,x.time,-1,-1⟩) (G:=[]) ⟨.aC,rfl,au.aC⟩ Own.nil (by simp) (by omega) ?_ ?_ ?_
   ·show(x.aF.length+1) * 168≤_
    omega
   ·show x.aF.length+1 < _
    omega
   intro v4 h4 f4 k4 bk4 c4 Ob
   have bk4:Bk h4 B [AV.int .i64 x.c.eU,AV.int .i64 x.c.wait,AV.int .i64 x.c.budget,AV.int .i64 x.c.cache,AV.int .i64 x.c.queue,AV.int .i64 x.c.rate,AV.int .i64 x.c.bn,AV.int .i64 x.c.rule.kind,AV.int .i64 x.c.rule.n,AV.str x.c.rule.key,AV.str x.c.rule.text,V.v0,AV.int .i64 x.time,AV.bool x.shut,V.v1,AV.int .i64 x.bS,AV.int .i64 x.b.rate,AV.int .i64 x.b.bn,AV.int .i64 x.b.tokens,AV.int .i64 x.b.at_,V.v2,AV.int .i64 x.used,AV.int .i64 x.w.now,V.v3,V.v4,V.v5,u2,V.v7,V.v8,V.v9,V.v10,AV.int .i64 x.next] 0:=bk4
   have hb4:=bk4.1
   have amX:∀ c∈F2.f10,h.n+1+1≤c:=fun c hc=>(w2.l10.1.2 c hc).1
   have bz3:=bF k4 (bF k3 bz2 (by simp;omega)) fun hm=>by have:=amX _ hm;omega
   clear bx3 b3 bz2
   refine vs ?_
   refine eu ?_
   refine vs ?_
   obtain⟨F3,w3,m3,kk3⟩:=Ob (h4.upd B ⟨_,0,0⟩) (fP hb4) fO
   have w3:PW (h.n+1+1) (h4.upd B ⟨_,0,0⟩) B {x with due:=rest,tasks:=x.tasks.set k' ⟨2,0,ig,td.trace,td.id,[],x.aF.length⟩,aF:=x.aF++[⟨2,k',ig,td.trace,td.id,0,false,false,0,0,0,x.w.now,x.time,-1,-1⟩]} {V with v6:=u2,v10:=v4} F3:=w3
   have w4:=w3.put (x':={x with due:=rest,tasks:=x.tasks.set k' ⟨2,0,ig,td.trace,td.id,[],x.aF.length⟩,aF:=x.aF++[⟨2,k',ig,td.trace,td.id,0,false,false,0,0,0,x.w.now,x.time,-1,-1⟩],time:=wr (x.time+1)}) (h':=(h4.upd B ⟨_,0,0⟩).upd B ⟨_,0,0⟩) (fP (by simpa using hb4)) fO
   have hne:h.n+1≠B:=by omega
   refine qX w4 (BG (BG bz3 hne) hne) (Kp.ext e (Mv.kp (F':=F3) (mv2.trans (Mv.of (kk3.trans (fO.mono fun c hc=>by rw[List.mem_singleton.1 hc];exact List.mem_cons_self)) (by omega) fun c hc=>?_))) fun c hc=>?_) (by omega)
   ·rcases m3 c hc with q|q|q
    ·exact .inl q
    ·cases q
    ·exact .inr (by omega)
   ·rcases List.mem_cons.1 hc with q|q
    ·omega
    ·have:=(w.own.1.2 c q).1;omega
  ·rw[Me fun c=>hg ⟨by obtain⟨t',ht',q⟩:=c.2.2.1;simp only[Int.toNat_natCast] at ht';rw[ht] at ht';cases ht';exact q,List.length_pos_iff.2 c.2.2.2⟩]
   (repeat' first|refine vs ?_|(refine br ?_ ?_<;>first|exact bo|intro _)|((with_reducible refine aA jI ?_);(refine aS (ny (x:=x) ok hs0 ⟨_,_,_,_,_,_,_,_,_,_,_,_,_,_,_,_,_,_,_,_,_,_,rfl,rfl,ah,ah,ah,ah,ah,ah,ah,ah,ah,ah,ah⟩) ?_ ?_<;>intro hn))|((with_reducible refine aA bq ?_);(refine bU (eZ) ?_ ?_<;>intro hb<;>(first|replace hb:=dx hb|replace hb:=dz hb)))|((with_reducible refine aY ?_);((refine ix ?_);rintro _ _ _ _ _ ⟨_,_,_,_,rfl,rfl,_,_⟩ _))|fail)
   all_goals first
    |(exfalso;first|omega|exact absurd hw.1 (by assumption))
    |exact qX w bz e (by omega)
 ·rw[Me fun c=>hw ⟨c.1,c.2.1⟩]
  (repeat' first|refine vs ?_|((with_reducible refine aA jI ?_);(refine aS (ny (x:=x) ok hs0 ⟨_,_,_,_,_,_,_,_,_,_,_,_,_,_,_,_,_,_,_,_,_,_,rfl,rfl,ah,ah,ah,ah,ah,ah,ah,ah,ah,ah,ah⟩) ?_ ?_<;>intro hn))|((with_reducible refine aA bq ?_);(refine bU (eZ) ?_ ?_<;>intro hb<;>(first|replace hb:=dx hb|replace hb:=dz hb)))|refine gS ?_|fail)
  all_goals first
   |exact absurd ⟨by assumption,by omega⟩ hw
   |exact qX w bz e (by omega)
end Go.Proofs.YtkdjapahgmflbaaGreat
