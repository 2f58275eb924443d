import Derived.Test.YtkdjapahgmflbaaGreatDW107
set_option linter.unusedSimpArgs false
set_option linter.unusedVariables false
set_option maxHeartbeats 4000000
set_option maxRecDepth 20000
namespace Go.Proofs.YtkdjapahgmflbaaGreat
open Go Go.Ab
attribute[local irreducible] cZ
theorem aev {h:AH} {n b k:Nat} {x:Wld} {V:WV} {F:WF} {t:Task} {d:bI} {y:Itm} {ys:List Itm} (w:PW n h b x V F) (ht:x.tasks[k]? =some t) (hd:x.aF[t.h.toNat]? =some d) (h0:0≤t.h) (hh:t.hand=y::ys) (hs:Sz.sz x≤33554432):bN Tryz.prog Kn [.ptr b 0,.int .i64 (k:Int)] h (Stp n h b F (qY x k t)):=by
 obtain⟨v0,v1,v2,v3,v4,v5,v6,v7,v8,v9,v10⟩:=V
 have hk:k < x.tasks.length:=(List.getElem?_eq_some_iff.1 ht).1
 have hdl:t.h.toNat < x.aF.length:=(List.getElem?_eq_some_iff.1 hd).1
 have s:=w.ws
 have hb:=w.bk.1
 rw[Xu hh]
 have hql:=w.r7.small
 have hqs:x.queue.length≤33554432:=by rw[wsz] at hs;omega
 have hys:ys.length≤33554432:=by
  have a1:=(vQ hs ht).2
  rw[hh] at a1;simp only[List.length_cons] at a1;omega
 obtain⟨b9,o9,E,Fi,R,ev9,re,oFi,el,hdj,mR,mF⟩:=w.r9.elt w.o9 ht
 obtain⟨u0,u1,G0,G1,rfl,rfl,q0,q1⟩:=re
 have ev9:v9= .sl b9 o9 x.tasks.length:=ev9
 subst ev9
 have hly:(y::ys).length=ys.length+1:=rfl
 rw[hh] at q1
 obtain⟨bh,oh,cy,Gy,Gs,rfl,rfl,ay,ry,rys,hes,hst,hroom⟩:=Vv q1 (bD oFi.1)
 obtain⟨vy,rfl,rvy⟩:=ry
 have bk:=bkE w
 have r7:au h v7 x.queue F.f7:=w.r7
 have at9:At h b9 (o9+k * 12) [.int .i64 t.op,.int .i64 t.pc,.int .i64 t.s.trace,.int .i64 t.s.id,.int .i64 t.s.start,.int .i64 t.s.fin,.bool t.s.err,u0,.int .i64 t.trace,.int .i64 t.stamp,(AV.sl bh oh (ys.length+1)),.int .i64 t.h]:=el.at_
 refine afN _ _ ?_
 unfold RI
 by_cases hq:x.c.queue≤(x.queue.length:Int)
 ·rw[if_pos hq]
  (repeat' first|refine vsw ?_|refine ao4 ?_|(refine br ?_ ?_<;>first|exact bo|intro _)|fail)
  exact⟨rfl,_,rfl,rfl,Kp.iA aD⟩
 ·rw[if_neg hq]
  (repeat' first|refine vsx ?_|refine ao4 ?_|(refine br ?_ ?_<;>first|exact bo|intro _)|fail)
  have nbn:n≤h.n:=by have:=w.nb;omega
  have d79:∀ c∈F.f7,c ∉ F.f9:=fun c=>w.sep.dis 7 9 _ _ (by decide) rfl rfl c
  have lt9:∀ c∈F.f9,c < h.n:=fun c hc=>s.lt c (F.in9 c hc)
  have mGy:∀ c∈Gy,c∈F.f9:=fun c hc=>mF c (List.mem_append_right _ (List.mem_cons_of_mem _ (List.mem_append_left _ hc)))
  have mGs:∀ c∈Gs,c∈F.f9:=fun c hc=>mF c (List.mem_append_right _ (List.mem_cons_of_mem _ (List.mem_append_right _ hc)))
  have mG0:∀ c∈G0,c∈F.f9:=fun c hc=>mF c (List.mem_append_left _ hc)
  have mbh:bh∈F.f9:=mF bh (List.mem_append_right _ List.mem_cons_self)
  have mb9:=mR b9 el.mem
  have oH0:Own n h ([bh]++(Gy++Gs)):=bD oFi.1
  have oyz:Own n h (Gy++Gs):=bD oH0
  have nb9:b≠b9:=fun e=>w.n9 (e▸mb9)
  have nbh:bh≠b:=fun e=>w.n9 (e▸mbh)
  have hbh:=lt9 bh mbh
  refine iJ (n:=n) r7 (⟨vy,rfl,rvy⟩:Cel.rep h y (y.cs vy) Gy) (fK w.o7 (dA oyz) (Nat.le_refl _) fun c hc hm=>d79 c hc (mGy c hm)) nbn rfl (by omega) (by omega) ?_
  intro v' h1 f _ k1 q7 o7 m7
  have n1:=k1.1
  have bk1:Bk h1 b [AV.int .i64 x.c.eU,AV.int .i64 x.c.wait,AV.int .i64 x.c.budget,AV.int .i64 x.c.cache,AV.int .i64 x.c.queue,AV.int .i64 x.c.rate,AV.int .i64 x.c.bn,AV.int .i64 x.c.rule.kind,AV.int .i64 x.c.rule.n,AV.str x.c.rule.key,AV.str x.c.rule.text,v0,AV.int .i64 x.time,AV.bool x.shut,v1,AV.int .i64 x.bS,AV.int .i64 x.b.rate,AV.int .i64 x.b.bn,AV.int .i64 x.b.tokens,AV.int .i64 x.b.at_,v2,AV.int .i64 x.used,AV.int .i64 x.w.now,v3,v4,v5,v6,v7,v8,(AV.sl b9 o9 x.tasks.length),v10,AV.int .i64 x.next] 0:=bF k1 bk w.n7
  have hb1:=bk1.1
  have el1:=el.kp k1 fun c hc hm=>d79 c hm (mR c hc)
  have N9:h1.get bh=h.get bh:=k1.2 bh hbh fun hm=>d79 bh hm mbh
  have Nt:au h1 (.sl bh (oh+1 * 7) (ys.length+1 - 1)) ys (bh::Gs):=aL k1 rys fun c hc hm=>d79 c hm (by
   rcases List.mem_cons.1 hc with e|e
   ·rw[e];exact mbh
   ·exact mGs c e)
  have cv':=q7.cell
  (repeat' first|refine vsx ?_|(with_reducible refine aW ?_)|fail)
  obtain⟨B,hB⟩:∃ B:Blk,B=⟨[AV.int .i64 x.c.eU,AV.int .i64 x.c.wait,AV.int .i64 x.c.budget,AV.int .i64 x.c.cache,AV.int .i64 x.c.queue,AV.int .i64 x.c.rate,AV.int .i64 x.c.bn,AV.int .i64 x.c.rule.kind,AV.int .i64 x.c.rule.n,AV.str x.c.rule.key,AV.str x.c.rule.text,v0,AV.int .i64 x.time,AV.bool x.shut,v1,AV.int .i64 x.bS,AV.int .i64 x.b.rate,AV.int .i64 x.b.bn,AV.int .i64 x.b.tokens,AV.int .i64 x.b.at_,v2,AV.int .i64 x.used,AV.int .i64 x.w.now,v3,v4,v5,v6,v',v8,(AV.sl b9 o9 x.tasks.length),v10,AV.int .i64 x.next],0,0⟩:=⟨_,rfl⟩
  have el2:=el1.kp (fO (b:=b) (kk:=⟨[AV.int .i64 x.c.eU,AV.int .i64 x.c.wait,AV.int .i64 x.c.budget,AV.int .i64 x.c.cache,AV.int .i64 x.c.queue,AV.int .i64 x.c.rate,AV.int .i64 x.c.bn,AV.int .i64 x.c.rule.kind,AV.int .i64 x.c.rule.n,AV.str x.c.rule.key,AV.str x.c.rule.text,v0,AV.int .i64 x.time,AV.bool x.shut,v1,AV.int .i64 x.bS,AV.int .i64 x.b.rate,AV.int .i64 x.b.bn,AV.int .i64 x.b.tokens,AV.int .i64 x.b.at_,v2,AV.int .i64 x.used,AV.int .i64 x.w.now,v3,v4,v5,v6,v',v8,(AV.sl b9 o9 x.tasks.length),v10,AV.int .i64 x.next],0,0⟩)) fun c hc hm=>w.n9 (List.mem_singleton.1 hm▸mR c hc)
  have an4:At (h1.upd b ⟨[AV.int .i64 x.c.eU,AV.int .i64 x.c.wait,AV.int .i64 x.c.budget,AV.int .i64 x.c.cache,AV.int .i64 x.c.queue,AV.int .i64 x.c.rate,AV.int .i64 x.c.bn,AV.int .i64 x.c.rule.kind,AV.int .i64 x.c.rule.n,AV.str x.c.rule.key,AV.str x.c.rule.text,v0,AV.int .i64 x.time,AV.bool x.shut,v1,AV.int .i64 x.bS,AV.int .i64 x.b.rate,AV.int .i64 x.b.bn,AV.int .i64 x.b.tokens,AV.int .i64 x.b.at_,v2,AV.int .i64 x.used,AV.int .i64 x.w.now,v3,v4,v5,v6,v',v8,(AV.sl b9 o9 x.tasks.length),v10,AV.int .i64 x.next],0,0⟩) b9 (o9+k * 12) [.int .i64 t.op,.int .i64 t.pc,.int .i64 t.s.trace,.int .i64 t.s.id,.int .i64 t.s.start,.int .i64 t.s.fin,.bool t.s.err,u0,.int .i64 t.trace,.int .i64 t.stamp,(AV.sl bh oh (ys.length+1)),.int .i64 t.h]:=el2.at_
  (repeat' first|refine vsx ?_|fail)
  have gH:∀ B:Blk,(h1.upd b B).get bh=h.get bh:=fun B=>by simp[nbh,N9]
  refine vD (i:=1) (by decide) (by rw[gH];exact hes) (by unfold mine;rw[gH];exact hst) (by rw[gH];exact hroom) (by omega) ?_
  have bGs:b ∉ bh::Gs:=fun hm=>by
   rcases List.mem_cons.1 hm with e|e
   ·exact nbh e.symm
   ·exact w.n9 (mGs b e)
  have mGb:∀ c∈bh::Gs,c∈F.f9:=fun c hc=>by
   rcases List.mem_cons.1 hc with e|e
   ·rw[e];exact mbh
   ·exact mGs c e
  have nd0:=List.nodup_append.1 oFi.1.1
  have oGb:bO n h (bh::Gs):=⟨⟨List.nodup_cons.2 ⟨fun hm=>(List.nodup_cons.1 nd0.2.1).1 (List.mem_append_right _ hm),(bD oyz).1⟩,fun c hc=>by
   rcases List.mem_cons.1 hc with e|e
   ·rw[e];exact oH0.2 bh (by simp)
   ·exact(bD oyz).2 c e⟩,fun c hc=>lt9 c (mGb c hc)⟩
  have anx:bO n h1 (bh::Gs):=dD k1 oGb fun c hc hm=>d79 c hm (mGb c hc)
  have r3:au (h1.upd b ⟨[AV.int .i64 x.c.eU,AV.int .i64 x.c.wait,AV.int .i64 x.c.budget,AV.int .i64 x.c.cache,AV.int .i64 x.c.queue,AV.int .i64 x.c.rate,AV.int .i64 x.c.bn,AV.int .i64 x.c.rule.kind,AV.int .i64 x.c.rule.n,AV.str x.c.rule.key,AV.str x.c.rule.text,v0,AV.int .i64 x.time,AV.bool x.shut,v1,AV.int .i64 x.bS,AV.int .i64 x.b.rate,AV.int .i64 x.b.bn,AV.int .i64 x.b.tokens,AV.int .i64 x.b.at_,v2,AV.int .i64 x.used,AV.int .i64 x.w.now,v3,v4,v5,v6,v',v8,(AV.sl b9 o9 x.tasks.length),v10,AV.int .i64 x.next],0,0⟩) (.sl bh (oh+1 * 7) (ys.length+1 - 1)) ys (bh::Gs):=fC Nt bGs
  have o3:=(dN (k:=⟨[AV.int .i64 x.c.eU,AV.int .i64 x.c.wait,AV.int .i64 x.c.budget,AV.int .i64 x.c.cache,AV.int .i64 x.c.queue,AV.int .i64 x.c.rate,AV.int .i64 x.c.bn,AV.int .i64 x.c.rule.kind,AV.int .i64 x.c.rule.n,AV.str x.c.rule.key,AV.str x.c.rule.text,v0,AV.int .i64 x.time,AV.bool x.shut,v1,AV.int .i64 x.bS,AV.int .i64 x.b.rate,AV.int .i64 x.b.bn,AV.int .i64 x.b.tokens,AV.int .i64 x.b.at_,v2,AV.int .i64 x.used,AV.int .i64 x.w.now,v3,v4,v5,v6,v',v8,(AV.sl b9 o9 x.tasks.length),v10,AV.int .i64 x.next],0,0⟩) anx bGs)
  have bk3:Bk (h1.upd b ⟨[AV.int .i64 x.c.eU,AV.int .i64 x.c.wait,AV.int .i64 x.c.budget,AV.int .i64 x.c.cache,AV.int .i64 x.c.queue,AV.int .i64 x.c.rate,AV.int .i64 x.c.bn,AV.int .i64 x.c.rule.kind,AV.int .i64 x.c.rule.n,AV.str x.c.rule.key,AV.str x.c.rule.text,v0,AV.int .i64 x.time,AV.bool x.shut,v1,AV.int .i64 x.bS,AV.int .i64 x.b.rate,AV.int .i64 x.b.bn,AV.int .i64 x.b.tokens,AV.int .i64 x.b.at_,v2,AV.int .i64 x.used,AV.int .i64 x.w.now,v3,v4,v5,v6,v',v8,(AV.sl b9 o9 x.tasks.length),v10,AV.int .i64 x.next],0,0⟩) b [AV.int .i64 x.c.eU,AV.int .i64 x.c.wait,AV.int .i64 x.c.budget,AV.int .i64 x.c.cache,AV.int .i64 x.c.queue,AV.int .i64 x.c.rate,AV.int .i64 x.c.bn,AV.int .i64 x.c.rule.kind,AV.int .i64 x.c.rule.n,AV.str x.c.rule.key,AV.str x.c.rule.text,v0,AV.int .i64 x.time,AV.bool x.shut,v1,AV.int .i64 x.bS,AV.int .i64 x.b.rate,AV.int .i64 x.b.bn,AV.int .i64 x.b.tokens,AV.int .i64 x.b.at_,v2,AV.int .i64 x.used,AV.int .i64 x.w.now,v3,v4,v5,v6,v',v8,(AV.sl b9 o9 x.tasks.length),v10,AV.int .i64 x.next] 0:=fP hb1
  (repeat' first|refine vsx ?_|(with_reducible refine aW ?_)|fail)
  refine el2.st_ r3.cell rfl aX ?_
  intro h4 el4 k4 n4
  have el4:Elt Task n h4 b9 (o9+k * 12) (({t with hand:=ys}:Task).cs u0 (.sl bh (oh+1 * 7) (ys.length+1 - 1))) (AV.sl b9 o9 x.tasks.length) x.tasks k R:=el4
  have bf:b ∉ f:=fun hm=>by
   rcases m7 b hm with q|q|q
   ·exact w.n7 q
   ·exact w.n9 (mGy b q)
   ·omega
  have b9f:∀ c∈f,c ∉ [b9]:=fun c hc hm=>by
   rw[List.mem_singleton.1 hm] at hc
   rcases m7 b9 hc with q|q|q
   ·exact d79 b9 q mb9
   ·exact hdj b9 (List.mem_append_right _ (List.mem_cons_of_mem _ (List.mem_append_left _ q))) el.mem
   ·have:=lt9 b9 mb9;omega
  have b9H:∀ c∈bh::Gs,c ∉ [b9]:=fun c hc hm=>by
   rw[List.mem_singleton.1 hm] at hc
   refine hdj b9 (List.mem_append_right _ ?_) el.mem
   rcases List.mem_cons.1 hc with e|e
   ·rw[e];exact List.mem_cons_self
   ·exact List.mem_cons_of_mem _ (List.mem_append_right _ e)
  have b9G:∀ c∈G0,c ∉ [b9]:=fun c hc hm=>hdj c (List.mem_append_left _ hc) (by rw[List.mem_singleton.1 hm];exact el.mem)
  have oG4:bO n h4 G0:=dD k4 (dN (dD k1 ⟨dA oFi.1,fun c hc=>lt9 c (mG0 c hc)⟩ fun c hc hm=>d79 c hm (mG0 c hc)) fun hm=>w.n9 (mG0 b hm)) b9G
  have K:Kp h h4 (b::(F.f7++F.f9)):=((k1.mono fun c hc=>List.mem_cons_of_mem _ (List.mem_append_left _ hc)).trans ((fO (b:=b)).mono fun c hc=>by rw[List.mem_singleton.1 hc];exact List.mem_cons_self)).trans (k4.mono fun c hc=>by rw[List.mem_singleton.1 hc];exact List.mem_cons_of_mem _ (List.mem_append_right _ mb9))
  have nd:=List.nodup_append.1 oFi.1.1
  obtain⟨x1,F1,e1,s1⟩:=VT (t':={t with hand:=ys}) (y:=y) (Gy:=Gy) (Gs:=Gs) (bh:=bh) (N:=h1.n) s K (bF k4 bk3 fun hm=>nb9 (List.mem_singleton.1 hm)) rfl (aL k4 (fC q7 bf) b9f) (dD k4 (dN ⟨o7,q7.lt⟩ bf) b9f).1 (fun c hc=>by
    rcases m7 c hc with q|q|q
    ·exact .inl q
    ·exact .inr (.inl q)
    ·exact .inr (.inr ⟨q,q7.lt c hc⟩)) el4 (aL k4 (fC (aL k1 q0 fun c hc hm=>d79 c hm (mG0 c hc)) fun hm=>w.n9 (mG0 b hm)) b9G) (aL k4 r3 b9H) (fK oG4.1 (dD k4 o3 b9H).1 (Nat.le_refl _) fun c hc hm=>by
    rcases List.mem_cons.1 hm with q|q
    ·exact nd.2.2 c hc c (by rw[q];exact List.mem_cons_self) rfl
    ·exact nd.2.2 c hc c (List.mem_cons_of_mem _ (List.mem_append_right _ q)) rfl) (fun c hc=>.inl hc) hdj mR mF oFi n1
  obtain⟨t2,et2⟩:∃ t2,t2=({t with hand:=ys}:Task):=⟨_,rfl⟩
  have ht1:x1.tasks[k]? =some t2:=by rw[e1,et2];exact List.getElem?_set_self hk
  have hd1:x1.aF[t.h.toNat]? =some d:=by rw[e1];exact hd
  have CB:t.h.toNat < x1.aF.length:=(List.getElem?_eq_some_iff.1 hd1).1
  have hk1:k < x1.tasks.length:=(List.getElem?_eq_some_iff.1 ht1).1
  have hkl:x.tasks.length=x1.tasks.length:=by rw[e1];simp
  have w1:=s1.w
  have bk4:=bkE w1
  have Zx:At h4 b9 (o9+k * 12) [.int .i64 t.op,.int .i64 t.pc,.int .i64 t.s.trace,.int .i64 t.s.id,.int .i64 t.s.start,.int .i64 t.s.fin,.bool t.s.err,u0,.int .i64 t.trace,.int .i64 t.stamp,(AV.sl bh (oh+1 * 7) (ys.length+1 - 1)),.int .i64 t.h]:=el4.at_
  clear bk bk1 bk3 at9 an4
  by_cases hl:ys.length=0
  ·rw[if_pos hl,if_pos hl]
   (repeat' first|refine vsx ?_|(with_reducible refine aW ?_)|(refine br ?_ ?_<;>first|exact bo|intro _)|fail)
   all_goals try(exfalso;omega)
   refine aK (Sq w1 ht1 (d:=d) (by rw[et2];exact hd1) (by rw[et2];exact h0)) ?_
   rintro _ h5 ⟨rfl,W⟩
   obtain⟨V5,F5,s5,-⟩:=s1.call W
   (repeat' first|refine vsw ?_|fail)
   have e:wM x1 k t2={x with queue:=x.queue++[y],aF:=upd x.aF t.h.toNat (fun d=>{d with res:=x.time}),tasks:=x.tasks.set k kN}:=by rw[e1,et2];unfold wM;simp only[List.set_set]
   rw[e] at s5
   exact⟨rfl,_,rfl,rfl,s5.done⟩
  ·rw[if_neg hl,if_neg hl]
   (repeat' first|refine vsw ?_|(with_reducible refine aW ?_)|(refine br ?_ ?_<;>first|exact bo|intro _)|fail)
   all_goals try(exfalso;omega)
   rw[e1] at s1
   exact⟨rfl,_,rfl,rfl,s1.done⟩
end Go.Proofs.YtkdjapahgmflbaaGreat
