import Derived.Test.YtkdjapahgmflbaaGreatDW60
import Derived.Test.YtkdjapahgmflbaaGreatDW70
set_option linter.unusedSimpArgs false
set_option linter.unusedVariables false
set_option maxHeartbeats 600000
namespace Go.Proofs.YtkdjapahgmflbaaGreat
open Go Go.Ab
attribute[local irreducible] cZ
section
def PV (x0 x1:AV):Prog:=Lf 26 x0 fun a=>Ix 3 a (.int .i64 0) fun a=>Ld 3 a fun a=>.op (.alloc [.int .i64 0,.int .i64 0,.int .i64 0]) fun b=>.op (.st 3 b a) fun _=>.op (.aU 3 0 [] []) fun a=>Lf 26 x0 fun c=>.op (.slc 3 c (some (.int .i64 1)) none none) fun c=>.op (.app 3 24 a c) fun a=>Sf 26 x0 a fun _=>Lf 29 x0 fun a=>Lg 1 b fun c=>Lg 0 b fun d=>Lf 30 x0 fun e=>Ln 0 e fun e=>.op (.build gJ [(0,1,.int .i64 2),(8,1,c),(9,1,d),(11,1,e)]) fun c=>Ix 12 a x1 fun a=>.op (.st 12 a c) fun _=>Lf 30 x0 fun a=>Lg 1 b fun c=>Lg 0 b fun b=>.op (.bg x0) fun d=>.op (.fad 22 d) fun d=>Lg 0 d fun d=>Lf 12 x0 fun e=>.op (.build iV [(0,1,.int .i64 2),(1,1,x1),(8,1,c),(9,1,b),(16,1,d),(17,1,e),(18,1,.int .i64 (-1)),(19,1,.int .i64 (-1))]) fun b=>.op (.aU 20 1 iV [(0,20,b)]) fun b=>.op (.app 20 168 a b) fun a=>Sf 30 x0 a fun _=>Lf 12 x0 fun a=>Bn .add a (.int .i64 1) fun a=>Sf 12 x0 a fun _=>.fin []
theorem ac2 (x0 x1:AV):CC Tryz.prog JI [x0,x1] (PV x0 x1):=cc Tryz.func162 [] (fun r=>if r=2 then[(0,[]),(1,[]),(2,[]),(3,[]),(4,[]),(5,[]),(6,[]),(7,[]),(8,[]),(9,[]),(10,[]),(11,[]),(12,[]),(13,[]),(14,[]),(15,[]),(16,[])] else if r=3 then[(0,[]),(1,[]),(2,[]),(3,[]),(4,[]),(5,[]),(6,[]),(7,[]),(8,[]),(9,[]),(10,[]),(11,[]),(12,[]),(13,[]),(14,[]),(15,[]),(16,[]),(17,[]),(18,[]),(19,[]),(20,[]),(21,[]),(22,[]),(23,[]),(24,[])] else[])
end
theorem WY {x:Wld} {k:Nat} {t:Ab.Timer} {rest:List Ab.Timer} (hd:x.due=t::rest):wB x k={x with due:=rest,tasks:=x.tasks.set k ⟨2,0,ig,t.trace,t.id,[],x.aF.length⟩,aF:=x.aF++[⟨2,k,ig,t.trace,t.id,0,false,false,0,0,0,x.w.now,x.time,-1,-1⟩],time:=wr (x.time+1)}:=by
 unfold wB;rw[hd]
theorem acu {h:AH} {n b k:Nat} {x:Wld} {V:WV} {F:WF} {t:Ab.Timer} {rest:List Ab.Timer} (w:PW n h b x V F) (hn:n≤h.n) (hd:x.due=t::rest) (hk:k < x.tasks.length) (hs:Sz.sz x≤67108864):bN Tryz.prog JI [.ptr b 0,.int .i64 (k:Int)] h fun v h'=>v= .tup []∧kX n h.n h b F (wB x k) h':=by
 rw[wsz] at hs
 rw[WY hd]
 have hdl:x.due.length=rest.length+1:=by rw[hd];rfl
 obtain⟨tk,htk,-,-⟩:=aP hk
 have bk:Bk h b [AV.int .i64 x.c.eU,AV.int .i64 x.c.wait,AV.int .i64 x.c.budget,AV.int .i64 x.c.cache,AV.int .i64 x.c.queue,AV.int .i64 x.c.rate,AV.int .i64 x.c.bn,AV.int .i64 x.c.rule.kind,AV.int .i64 x.c.rule.n,AV.str x.c.rule.key,AV.str x.c.rule.text,V.v0,AV.int .i64 x.time,AV.bool x.shut,V.v1,AV.int .i64 x.bS,AV.int .i64 x.b.rate,AV.int .i64 x.b.bn,AV.int .i64 x.b.tokens,AV.int .i64 x.b.at_,V.v2,AV.int .i64 x.used,AV.int .i64 x.w.now,V.v3,V.v4,V.v5,V.v6,V.v7,V.v8,V.v9,V.v10,AV.int .i64 x.next] 0:=w.bk
 have hb:=bk.1
 have lt:=w.own.2
 have h6:∀ c∈F.f6,c < h.n:=w.l6.2
 refine ac2 _ _ ?_
 unfold PV
 (repeat' first|refine vs ?_|(with_reducible refine aW ?_)|fail)
 refine bV (i:=0) w.r6 (x:=t) (by rw[hd];rfl) rfl ?_
 rintro bt ot _ _ a ⟨rfl,rfl⟩ _
 (repeat' first|refine vs ?_|(with_reducible refine aW ?_)|fail)
 obtain⟨u1,u2,B,E1,E2,eF,-,-,p2,t2,-,s2⟩:=w.r6.cut (P:=Tryz.prog) w.o6 (show 1≤x.due.length by omega)
 rw[hd,List.drop_succ_cons,List.drop_zero] at p2
 refine Iy (s2 _ _ (fun c hc=>(aD:Ext h _).2 c (h6 c (by rw[eF];simp[hc]))) ?_)
 refine CK (ys:=rest) (ah:au _ u2 rest (B++E2)) (oU p2 _) (Nat.le_refl _) rfl (by omega) ?_
 intro v1 h1 G1 e1 q1 o1
 have n1:=e1.1;(try simp only[aH,aN] at n1)
 (repeat' first|refine vs ?_|(with_reducible refine aW ?_)|fail)
 refine YA (R:=fun h2=>Bk h2 b [AV.int .i64 x.c.eU,AV.int .i64 x.c.wait,AV.int .i64 x.c.budget,AV.int .i64 x.c.cache,AV.int .i64 x.c.queue,AV.int .i64 x.c.rate,AV.int .i64 x.c.bn,AV.int .i64 x.c.rule.kind,AV.int .i64 x.c.rule.n,AV.str x.c.rule.key,AV.str x.c.rule.text,V.v0,AV.int .i64 x.time,AV.bool x.shut,V.v1,AV.int .i64 x.bS,AV.int .i64 x.b.rate,AV.int .i64 x.b.bn,AV.int .i64 x.b.tokens,AV.int .i64 x.b.at_,V.v2,AV.int .i64 x.used,AV.int .i64 x.w.now,V.v3,V.v4,V.v5,v1,V.v7,V.v8,V.v9,V.v10,AV.int .i64 x.next] 0∧Bk h2 h.n [.int .i64 t.id,.int .i64 t.trace,.int .i64 t.at_] 0∧Kp h h2 [b]∧au h2 v1 rest G1∧Own (h.n+1) h2 G1∧h1.n≤h2.n) ⟨aV,aV,?_,ah,bA,by simp⟩ ?_
 ·exact(Mr:Kp h h1 [b]).uy (by simp) _
 rintro h2 ⟨b2,bt2,k2,q2,o2,n2⟩
 have f1:∀ c∈G1,h.n+1≤c:=fun c hc=>(o2.2 c hc).1
 have fa:∀ c∈G1,c ∉ F.a:=fun c hc hm=>by have:=lt c hm;have:=f1 c hc;omega
 have w1:PW n h2 b {x with due:=rest} {V with v6:=v1} {F with f6:=G1}:=w.YI b2 (k2.mono fun c hc=>by rw[List.mem_singleton.1 hc];exact List.mem_cons_self) q2 (o2.mono (by omega) fun _ _=>rfl) (fun hm=>by have:=f1 _ hm;omega) fun c hc=>.inr (fa c hc)
 have mv1:Mv h.n h b F h2 {F with f6:=G1}:=Mv.ofX k2 (fun c hc=>.inl (List.mem_singleton.1 hc)) (Nat.le_refl _) fun c hc=>(WF.Y7 hc).elim (fun q=>.inr (by have:=f1 c q;omega)) .inl
 have anq:au h2 V.v10 x.aF F.f10:=w1.r10
 (repeat' first|refine vs ?_|fail)
 obtain⟨bb,off,_,Fi,R,ev,⟨y0,y1,H0,H1,rfl,rfl,-,-⟩,oF,el,hdj,mR,mF⟩:=w1.r9.elt w1.o9 htk
 have ev:V.v9= .sl bb off x.tasks.length:=ev
 have hbb:=el.own.2 bb el.mem
 have hF9:∀ c∈F.f9,c < h.n:=w.l9.2
 have mR9:∀ c∈R,c∈F.f9:=mR
 have hbh:bb < h.n:=hF9 bb (mR9 bb el.mem)
 have NV:b≠bb:=fun e=>w.n9 (e▸mR9 bb el.mem)
 have el:Elt Task n h2 bb (off+k * 12) [.int .i64 tk.op,.int .i64 tk.pc,.int .i64 tk.s.trace,.int .i64 tk.s.id,.int .i64 tk.s.start,.int .i64 tk.s.fin,.bool tk.s.err,y0,.int .i64 tk.trace,.int .i64 tk.stamp,y1,.int .i64 tk.h] V.v9 x.tasks k R:=el
 rw[ev]
 refine mK hk ?_
 have sp:SP [.int .i64 tk.op,.int .i64 tk.pc,.int .i64 tk.s.trace,.int .i64 tk.s.id,.int .i64 tk.s.start,.int .i64 tk.s.fin,.bool tk.s.err,y0,.int .i64 tk.trace,.int .i64 tk.stamp,y1,.int .i64 tk.h] 0 [.int .i64 2,.int .i64 0,.int .i64 0,.int .i64 0,.int .i64 0,.int .i64 0,.bool false,.aC,.int .i64 t.trace,.int .i64 t.id,.aC,.int .i64 x.aF.length] [.int .i64 2,.int .i64 0,.int .i64 0,.int .i64 0,.int .i64 0,.int .i64 0,.bool false,.aC,.int .i64 t.trace,.int .i64 t.id,.aC,.int .i64 x.aF.length]:=aX
 refine Elt.st0 el rfl rfl sp ?_
 intro h3 el3 k3 n3
 obtain⟨F2,w2,m2,kk2⟩:=w1.IX (y':=⟨2,0,ig,t.trace,t.id,[],x.aF.length⟩) (G:=[]) el3 ⟨.aC,.aC,[],[],rfl,rfl,au.aC,au.aC⟩ Own.nil (by simp) mR (by simp) (k3.mono fun c hc=>by rw[List.mem_singleton.1 hc];exact mR bb el.mem)
 have w2:PW n h3 b {x with due:=rest,tasks:=x.tasks.set k ⟨2,0,ig,t.trace,t.id,[],x.aF.length⟩} {V with v6:=v1} F2:=w2
 have mv2:=mv1.trans (Mv.of kk2 (by omega) fun c hc=>(m2 c hc).elim .inl fun q=>absurd q List.not_mem_nil)
 have bt3:=bF k3 bt2 (by simp;omega)
 have b3:=bF k3 b2 (by simpa using NV)
 have r10:au h3 V.v10 x.aF F2.f10:=w2.r10
 (repeat' first|refine vs ?_|(with_reducible refine aW ?_)|fail)
 refine w2.zn (a:=⟨2,k,ig,t.trace,t.id,0,false,false,0,0,0,x.w.now,x.time,-1,-1⟩) (G:=[]) ⟨.aC,rfl,au.aC⟩ Own.nil (by simp) (by omega) ?_ ?_ ?_
 ·show(x.aF.length+1) * 168≤_
  omega
 ·show x.aF.length+1 < _
  omega
 intro v4 h4 f4 k4 bk4 c4 Ob
 have bk4:Bk h4 b [AV.int .i64 x.c.eU,AV.int .i64 x.c.wait,AV.int .i64 x.c.budget,AV.int .i64 x.c.cache,AV.int .i64 x.c.queue,AV.int .i64 x.c.rate,AV.int .i64 x.c.bn,AV.int .i64 x.c.rule.kind,AV.int .i64 x.c.rule.n,AV.str x.c.rule.key,AV.str x.c.rule.text,V.v0,AV.int .i64 x.time,AV.bool x.shut,V.v1,AV.int .i64 x.bS,AV.int .i64 x.b.rate,AV.int .i64 x.b.bn,AV.int .i64 x.b.tokens,AV.int .i64 x.b.at_,V.v2,AV.int .i64 x.used,AV.int .i64 x.w.now,V.v3,V.v4,V.v5,v1,V.v7,V.v8,V.v9,V.v10,AV.int .i64 x.next] 0:=bk4
 have hb4:=bk4.1
 (repeat' first|refine vs ?_|(with_reducible refine aW ?_)|(with_reducible refine eu ?_)|fail)
 obtain⟨F3,w3,m3,kk3⟩:=Ob (h4.upd b ⟨_,0,0⟩) (fP hb4) fO
 have w3:PW n (h4.upd b ⟨_,0,0⟩) b {x with due:=rest,tasks:=x.tasks.set k ⟨2,0,ig,t.trace,t.id,[],x.aF.length⟩,aF:=x.aF++[⟨2,k,ig,t.trace,t.id,0,false,false,0,0,0,x.w.now,x.time,-1,-1⟩]} {V with v6:=v1,v10:=v4} F3:=w3
 have w4:=w3.put (x':={x with due:=rest,tasks:=x.tasks.set k ⟨2,0,ig,t.trace,t.id,[],x.aF.length⟩,aF:=x.aF++[⟨2,k,ig,t.trace,t.id,0,false,false,0,0,0,x.w.now,x.time,-1,-1⟩],time:=wr (x.time+1)}) (h':=(h4.upd b ⟨_,0,0⟩).upd b ⟨_,0,0⟩) (fP (by simpa using hb4)) fO
 refine⟨rfl,_,rfl,rfl,_,F3,w4,mv2.trans (Mv.of (kk3.trans (fO.mono fun c hc=>by rw[List.mem_singleton.1 hc];exact List.mem_cons_self)) (by omega) fun c hc=>?_)⟩
 rcases m3 c hc with q|q|q
 ·exact .inl q
 ·cases q
 ·exact .inr (by omega)
end Go.Proofs.YtkdjapahgmflbaaGreat
