import Derived.Test.YtcgjihfngdhjjaaGreatDW89
import Derived.Test.YtcgjihfngdhjjaaGreatDW116
import Derived.Test.YtcgjihfngdhjjaaGreatDW81
section
set_option linter.unusedSimpArgs false
set_option linter.unusedVariables false
set_option maxHeartbeats 4000000
set_option maxRecDepth 20000
namespace Go.Proofs.YtcgjihfngdhjjaaGreat
open Go Go.Ab
attribute[local irreducible] dD
section
def Qd (x0 x1:AV):Prog:=Lf 27 x0 fun a=>Ln 0 a fun a=>.op (.bZ x0) fun b=>.op (.fad 0 b) fun b=>Lg 4 b fun b=>Bn .geq a b fun a=>.ite a (.fin [.val (.bool false)]) (Lf 29 x0 fun a=>Ix 12 a x1 fun a=>Lg 10 a fun a=>Lf 27 x0 fun b=>Ix 7 a (.int .i64 0) fun c=>Ld 7 c fun c=>.op (.aS 7 1 pq [(0,7,c)]) fun c=>.op (.app 7 72 b c) fun b=>Sf 27 x0 b fun _=>.op (.bZ x0) fun b=>.op (.fad 29 b) fun b=>.op (.ld1 b) fun c=>.op (.aS 7 0 [] []) fun d=>.op (.slc 7 a (some (.int .i64 1)) none none) fun e=>.op (.app 7 72 d e) fun d=>.chk (.ld1 b) c (Ix 12 c x1 fun b=>Sg 10 b d fun _=>Ln 0 a fun a=>Bn .eql a (.int .i64 1) fun a=>.scope (.ite a (Lf 30 x0 fun a=>Lf 29 x0 fun b=>Ix 12 b x1 fun b=>Lg 11 b fun b=>Lf 12 x0 fun c=>Ix 20 a b fun a=>Sg 19 a c fun _=>Lf 29 x0 fun a=>.op (.build ji []) fun b=>Ix 12 a x1 fun a=>.op (.st 12 a b) fun _=>.leaf 0 []) (.leaf 0 [])) (fun _=>.fin [.val (.bool true)]) fun a b=>aC a 1 (.leaf 1 b) .bad))
theorem acC (x0 x1:AV):CC Tryz.prog Kh [x0,x1] (Qd x0 x1):=cc Tryz.func271 [] (fun r=>if r=1 then[(0,[]),(1,[]),(2,[]),(3,[]),(4,[]),(5,[]),(6,[]),(7,[]),(8,[]),(9,[]),(10,[])] else if r=4 then[(0,[]),(1,[]),(2,[]),(3,[]),(4,[]),(5,[]),(6,[]),(7,[]),(8,[]),(9,[]),(10,[]),(11,[]),(12,[])] else if r=5 then[(0,[]),(1,[]),(2,[]),(3,[]),(4,[]),(5,[]),(6,[]),(7,[]),(8,[3]),(9,[]),(10,[]),(11,[])] else if r=7 then[(0,[]),(1,[]),(2,[]),(3,[]),(4,[]),(5,[]),(6,[]),(7,[]),(8,[]),(9,[]),(10,[]),(11,[]),(12,[]),(13,[]),(14,[]),(15,[]),(16,[]),(17,[]),(18,[])] else[])
end
theorem X0 {α:Type} [Cel α] {P:Program} {h:AH} {Q:Nat→List AV→AH→Prop} {k:AV→Prog} {n es bytes:Nat} {y:AV} {ys:List α} {Fy:List Nat} (ry:ah h y ys Fy) (o:Own n h Fy.tail) (hn:n≤h.n) (hw:es=Cel.w α) (hs:ys.length * bytes≤70368744177664)
  (hk:∀ v h' F',Ext h h'→ah h' v ys F'→Own n h' F'→(∀ c∈F',c∈Fy.tail∨h.n≤c)→(k v).awp P h' Q):(Prog.op (.app es bytes (.sl h.n 0 0) y) k).awp P (h.push ⟨[],es,0⟩) Q:=by
 have hsm:=ry.small
 obtain⟨re,oe⟩:=gu (h:=h) (α:=α) hw
 have hlt:=ry.lt
 have Dt:∀ b∈Fy.tail,b < h.n:=fun b hb=>hlt b (List.mem_of_mem_tail hb)
 refine xg (n:=n) (xs:=[]) re (dU ry) ?_ (by simp;omega) hw (by simpa using hs) (by simpa using hsm) ?_
 ·exact oD hn rfl Dt o
 ·intro v h' F' kp r' o' hF
  refine hk v h' F' ⟨Nat.le_trans (by simp) kp.1,fun b hb=>?_⟩ r' o' fun c hc=>?_
  ·rw[kp.2 b (by simp;omega) (by simp;omega)]
   have:b≠h.n:=by omega
   simp[this]
  ·rcases hF c hc with q|q|q
   ·exact .inr (by rw[List.mem_singleton.1 q];exact Nat.le_refl _)
   ·exact .inl q
   ·exact .inr (Nat.le_trans (by simp) q)
section
variable{n m b N b9 oo k bh:Nat} {h0 h g:AH} {F0 F:WF} {x:Wld} {v0 v1 v2 v3 v4 v5 v6 v7 v8 v9 v10 v' u0 u1:AV} {f R G0 Gy Gs H1:List Nat} {t':Task} {y:Itm} {cells:List AV}
theorem agw (s:WS n m h0 b F0 h x ⟨v0,v1,v2,v3,v4,v5,v6,v7,v8,v9,v10⟩ F) (K:Kp h g (b::(F.f7++F.f9))) (bk:Bk g b cells 0) (hc:cells=Wld.cv {x with queue:=x.queue++[y],tasks:=x.tasks.set k t'} ⟨v0,v1,v2,v3,v4,v5,v6,v',v8,v9,v10⟩) (q7:ah g v' (x.queue++[y]) f) (o7:Own n g f) (m7:∀ c∈f,c∈F.f7∨c∈Gy∨(h.n≤c∧c < N)) (el:Elt Task n g b9 oo (t'.cs u0 u1) v9 x.tasks k R) (q0:ah g u0 t'.s.attrs G0) (q1:ah g u1 t'.hand H1) (oH:Own n g (G0++H1)) (mH:∀ c∈H1,c∈bh::Gs∨N≤c) (hdj:∀ c∈G0++(bh::(Gy++Gs)),c ∉ R) (mR:∀ c∈R,c∈F.f9) (mF:∀ c∈G0++(bh::(Gy++Gs)),c∈F.f9) (oF:bU n h (G0++(bh::(Gy++Gs)))) (hN:h.n≤N):∃ x1 F',x1={x with queue:=x.queue++[y],tasks:=x.tasks.set k t'}∧WS n m h0 b F0 g x1 ⟨v0,v1,v2,v3,v4,v5,v6,v',v8,v9,v10⟩ F':=by
 have w:=s.w
 have lt:=s.lt
 have lt9:∀ c∈F.f9,c < h.n:=fun c hc=>lt c (F.in9 c hc)
 have lt7:∀ c∈F.f7,c < h.n:=fun c hc=>lt c (F.in7 c hc)
 have hb:=w.bk.1
 have d79:∀ c∈F.f7,c ∉ F.f9:=fun c=>w.sep.dis 7 9 _ _ (by decide) rfl rfl c
 have mG0:∀ c∈G0,c∈F.f9:=fun c hc=>mF c (List.mem_append_left _ hc)
 have mGy:∀ c∈Gy,c∈F.f9:=fun c hc=>mF c (List.mem_append_right _ (List.mem_cons_of_mem _ (List.mem_append_left _ hc)))
 have mGs:∀ c∈bh::Gs,c∈F.f9:=fun c hc=>mF c (List.mem_append_right _ (by
  rcases List.mem_cons.1 hc with e|e
  ·rw[e];exact List.mem_cons_self
  ·exact List.mem_cons_of_mem _ (List.mem_append_right _ e)))
 have nd:=List.nodup_append.1 oF.1.1
 have ndy:∀ c∈Gy,c ∉ bh::Gs:=fun c hc hm=>by
  have n1:=List.nodup_cons.1 nd.2.1
  rcases List.mem_cons.1 hm with e|e
  ·exact n1.1 (e▸List.mem_append_left _ hc)
  ·exact(List.nodup_append.1 n1.2).2.2 c hc c e rfl
 have akM:∀ c∈Gy,c ∉ G0:=fun c hc hm=>nd.2.2 c hm c (List.mem_cons_of_mem _ (List.mem_append_left _ hc)) rfl
 have hRy:∀ c∈Gy,c ∉ R:=fun c hc=>hdj c (List.mem_append_right _ (List.mem_cons_of_mem _ (List.mem_append_left _ hc)))
 have hRs:∀ c∈bh::Gs,c ∉ R:=fun c hc=>hdj c (List.mem_append_right _ (by
  rcases List.mem_cons.1 hc with e|e
  ·rw[e];exact List.mem_cons_self
  ·exact List.mem_cons_of_mem _ (List.mem_append_right _ e)))
 obtain⟨F9,r9,o9,m9⟩:=el.done (x':=t') (Fi':=G0++H1) ⟨u0,u1,G0,H1,rfl,rfl,q0,q1⟩ oH (fun c hc hR=>by
  rcases List.mem_append.1 hc with q|q
  ·exact hdj c (List.mem_append_left _ q) hR
  ·rcases mH c q with q|q
   ·exact hRs c q hR
   ·have:=lt9 c (mR c hR);omega)
 have m9':∀ c∈F9,c∈R∨c∈G0∨c∈bh::Gs∨N≤c:=fun c hc=>by
  rcases m9 c hc with q|q
  ·exact .inl q
  ·rcases List.mem_append.1 q with q|q
   ·exact .inr (.inl q)
   ·exact .inr (.inr (mH c q))
 have w':=ajS (x':={x with queue:=x.queue++[y],tasks:=x.tasks.set k t'}) w (hc▸bk) K q7 r9 o7 o9
  (fun hm=>by
   rcases m7 b hm with q|q|q
   ·exact w.n7 q
   ·exact w.n9 (mGy b q)
   ·omega)
  (fun hm=>by
   rcases m9' b hm with q|q|q|q
   ·exact w.n9 (mR b q)
   ·exact w.n9 (mG0 b q)
   ·exact w.n9 (mGs b q)
   ·omega)
  (fun c h1 h2=>by
   rcases m7 c h1 with q|q|q<;>rcases m9' c h2 with p|p|p|p
   ·exact d79 c q (mR c p)
   ·exact d79 c q (mG0 c p)
   ·exact d79 c q (mGs c p)
   ·have:=lt7 c q;omega
   ·exact hRy c q p
   ·exact akM c q p
   ·exact ndy c q p
   ·have:=lt9 c (mGy c q);omega
   ·have:=lt9 c (mR c p);omega
   ·have:=lt9 c (mG0 c p);omega
   ·have:=lt9 c (mGs c p);omega
   ·omega)
  (fun c hc=>by
   rcases m7 c hc with q|q|q
   ·exact .inl q
   ·exact .inr (.inl (mGy c q))
   ·exact .inr (.inr fun hm=>by have:=lt c hm;omega))
  (fun c hc=>by
   rcases m9' c hc with q|q|q|q
   ·exact .inr (.inl (mR c q))
   ·exact .inr (.inl (mG0 c q))
   ·exact .inr (.inl (mGs c q))
   ·exact .inr (.inr fun hm=>by have:=lt c hm;omega))
 refine⟨_,_,rfl,s.to w' (K.mono fun c hc=>?_) fun c hc=>?_⟩
 ·rcases List.mem_cons.1 hc with e|e
  ·rw[e];exact List.mem_cons_self
  ·rcases List.mem_append.1 e with e|e
   ·exact List.mem_cons_of_mem _ (F.in7 c e)
   ·exact List.mem_cons_of_mem _ (F.in9 c e)
 ·have hm:=s.hm
  rcases ahp hc with q|q|q
  ·rcases m7 c q with q|q|q
   ·exact .inl (F.in7 c q)
   ·exact .inl (F.in9 c (mGy c q))
   ·exact .inr (by omega)
  ·rcases m9' c q with q|q|q|q
   ·exact .inl (F.in9 c (mR c q))
   ·exact .inl (F.in9 c (mG0 c q))
   ·exact .inl (F.in9 c (mGs c q))
   ·exact .inr (by omega)
  ·exact .inl q
end
end Go.Proofs.YtcgjihfngdhjjaaGreat
end
section
set_option linter.unusedSimpArgs false
set_option linter.unusedVariables false
set_option maxHeartbeats 2000000
namespace Go.Proofs.YtcgjihfngdhjjaaGreat
open Go Go.Ab
attribute[local irreducible] dD
section
variable{P:Program} {n m b:Nat} {h0 h h':AH} {F0 F:WF} {x x':Wld} {V:WV} {v0 v1 v2 v3 v4 v5 v6 v7 v8 v9 v10:AV} {f7 f8:List Nat} {Q:Nat→List AV→AH→Prop}
theorem YT (s:WS n m h0 b F0 h x ⟨v0,v1,v2,v3,v4,v5,v6,v7,v8,v9,v10⟩ F) {u:AV} {l:List Ab.Timer} {Fu:List Nat} {bytes:Nat} {k:AV→Prog} (ru:ah h u l Fu) (hs:(x.due.length+l.length) * bytes≤70368744177664) (hs2:x.due.length+l.length < 281474976710656)
  (hk:∀ v h1,Kp h h1 F.f6→Bk h1 b (x.cv ⟨v0,v1,v2,v3,v4,v5,v6,v7,v8,v9,v10⟩) 0→v.cells? =some [v]→(∀ {g:AH} {cells:List AV} {p:Prog} {Q':Nat→List AV→AH→Prop},(∀ x1 F1,x1={x with due:=x.due++l}→WS n m h0 b F0 g x1 ⟨v0,v1,v2,v3,v4,v5,v,v7,v8,v9,v10⟩ F1→(∀ c∈F1.a,c∈F.a∨h.n≤c)→p.awp P g Q')→Bk g b cells 0→cells=Wld.cv {x with due:=x.due++l} ⟨v0,v1,v2,v3,v4,v5,v,v7,v8,v9,v10⟩→Kp h1 g [b]→p.awp P g Q')→(k v).awp P h1 Q):(Prog.op (.app 3 bytes v6 u) k).awp P h Q:=by
 have nb:=s.w.nb
 have hb:=s.w.bk.1
 have hm:=s.hm
 have lt:=s.lt
 refine IJ (n:=n) s.w.r6 ru s.w.o6 (by omega) rfl hs hs2 fun v h1 f k1 q1 o1 m1=>hk v h1 k1 (bI k1 s.w.bk s.w.n6) q1.cell fun{g cells p Q'} hk' bk hc kk=>?_
 have hbf:b ∉ f:=fun hm=>by
  rcases m1 b hm with q|q
  ·exact s.w.n6 q
  ·omega
 have K:Kp h g (b::F.f6):=(k1.mono fun c hc=>List.mem_cons_of_mem _ hc).trans (kk.mono fun c hc=>by rw[List.mem_singleton.1 hc];exact List.mem_cons_self)
 have w':=s.w.Xz (x':={x with due:=x.due++l}) (v:=v) (f:=f) (hc▸bk) K (aK kk q1 (gJ hbf)) (bX kk ⟨o1,q1.lt⟩ (gJ hbf)).1 hbf (fun c hc=>(m1 c hc).imp id fun q hF=>by have:=lt c hF;omega)
 have fr:∀ c∈({F with f6:=f}:WF).a,c∈F.a∨h.n≤c:=fun c hc=>(WF.Yf hc).elim (fun q=>(m1 c q).imp (F.in6 c) id) .inl
 refine hk' _ _ rfl (s.to w' (K.mono fun c hc=>?_) fun c hc=>(fr c hc).imp id fun q=>by omega) fr
 rcases List.mem_cons.1 hc with q|q
 ·rw[q];exact List.mem_cons_self
 ·exact List.mem_cons_of_mem _ (F.in6 c q)
theorem ajT (w:PW n h b x V F) {v7 v8:AV} (bk:Bk h' b (x'.cv {V with v7:=v7,v8:=v8}) 0) (k:Kp h h' (b::(F.f7++F.f8))) (r7:ah h' v7 x'.queue f7) (r8:ah h' v8 x'.out f8) (o7:Own n h' f7) (o8:Own n h' f8) (hb7:b ∉ f7) (hb8:b ∉ f8) (d:∀ c∈f7,c ∉ f8) (fr7:∀ c∈f7,c∈F.f7∨c∈F.f8∨c ∉ F.a) (fr8:∀ c∈f8,c∈F.f7∨c∈F.f8∨c ∉ F.a) (e0:x'.c.rule.l=x.c.rule.l:=by rfl) (e1:x'.st=x.st:=by rfl) (e2:x'.cache=x.cache:=by rfl) (e3:x'.w.near=x.w.near:=by rfl) (e4:x'.w.far=x.w.far:=by rfl) (e5:x'.w.rest=x.w.rest:=by rfl) (e6:x'.due=x.due:=by rfl) (e9:x'.tasks=x.tasks:=by rfl) (e10:x'.aF=x.aF:=by rfl):PW n h' b x' {V with v7:=v7,v8:=v8} {F with f7:=f7,f8:=f8}:=by
 have dj:∀ (j:Nat) (G:List Nat),j≠7→j≠8→F.l[j]? =some G→∀ c∈G,c ∉ b::(F.f7++F.f8):=fun j G hj hj' hG c hc hX=>by
  rcases List.mem_cons.1 hX with e|e
  ·subst e;exact(w.sep.own j G hG).2 hc
  rcases List.mem_append.1 e with e|e
  ·exact w.sep.dis j 7 G _ hj hG rfl c hc e
  ·exact w.sep.dis j 8 G _ hj' hG rfl c hc e
 exact⟨bk,w.nb,Xu (i:=7) (j:=8) w.sep (by decide) rfl rfl k ⟨o7,r7.lt⟩ ⟨o8,r8.lt⟩ hb7 hb8 d fr7 fr8,by rw[e0];exact aK k w.r0 (dj 0 _ (by decide) (by decide) rfl),by rw[e1];exact aK k w.r1 (dj 1 _ (by decide) (by decide) rfl),by rw[e2];exact aK k w.r2 (dj 2 _ (by decide) (by decide) rfl),by rw[e3];exact aK k w.r3 (dj 3 _ (by decide) (by decide) rfl),by rw[e4];exact aK k w.r4 (dj 4 _ (by decide) (by decide) rfl),by rw[e5];exact aK k w.r5 (dj 5 _ (by decide) (by decide) rfl),by rw[e6];exact aK k w.r6 (dj 6 _ (by decide) (by decide) rfl),r7,r8,by rw[e9];exact aK k w.r9 (dj 9 _ (by decide) (by decide) rfl),by rw[e10];exact aK k w.r10 (dj 10 _ (by decide) (by decide) rfl)⟩
theorem ahq {c:Nat} (hc:c∈({F with f7:=f7,f8:=f8}:WF).a):c∈f7∨c∈f8∨c∈F.a:=by
 obtain⟨j,G,hG,hm⟩:=fu.1 hc
 have e:({F with f7:=f7,f8:=f8}:WF).l=(F.l.set 7 f7).set 8 f8:=rfl
 rw[e] at hG
 rcases jI hG with⟨_,rfl⟩|⟨_,hG⟩
 ·exact .inr (.inl hm)
 rcases jI hG with⟨_,rfl⟩|⟨_,hG⟩
 ·exact .inl hm
 ·exact .inr (.inr (fu.2 ⟨j,G,hG,hm⟩))
end
end Go.Proofs.YtcgjihfngdhjjaaGreat
end
section
set_option linter.unusedSimpArgs false
set_option linter.unusedVariables false
set_option maxHeartbeats 4000000
set_option maxRecDepth 20000
namespace Go.Proofs.YtcgjihfngdhjjaaGreat
open Go Go.Ab
attribute[local irreducible] dD
theorem ah9 {x : Wld} {k : Nat} {t : Task} {y : Itm} {ys : List Itm} (hh : t.hand = y :: ys) : pR x k t = if x.c.queue ≤ (x.queue.length : Int) then none else some { x with
      queue := x.queue ++ [y]
      aF := if ys.length = 0 then upd x.aF t.h.toNat (fun d => { d with res := x.time }) else x.aF
      tasks := if ys.length = 0 then x.tasks.set k dX else x.tasks.set k { t with hand := ys } } := by unfold pR; rw [hh]
theorem ab0 {h:AH} {n b k:Nat} {x:Wld} {V:WV} {F:WF} {t:Task} {d:aW} {y:Itm} {ys:List Itm} (w:PW n h b x V F) (ht:x.tasks[k]? =some t) (hd:x.aF[t.h.toNat]? =some d) (h0:0≤t.h) (hh:t.hand=y::ys) (hs:Sz.sz x≤33554432):bq Tryz.prog Kh [.ptr b 0,.int .i64 (k:Int)] h (Stp n h b F (pR x k t)):=by
 obtain⟨v0,v1,v2,v3,v4,v5,v6,v7,v8,v9,v10⟩:=V
 have hk:k < x.tasks.length:=(List.getElem?_eq_some_iff.1 ht).1
 have hdl:t.h.toNat < x.aF.length:=(List.getElem?_eq_some_iff.1 hd).1
 have s:=w.ws
 have hb:=w.bk.1
 rw[ah9 hh]
 have hql:=w.r7.small
 have hqs:x.queue.length≤33554432:=by rw[wsz] at hs;omega
 have hys:ys.length≤33554432:=by
  have a1:=(LZ hs ht).2
  rw[hh] at a1;simp only[List.length_cons] at a1;omega
 obtain⟨b9,o9,E,Fi,R,ev9,re,oFi,el,hdj,mR,mF⟩:=w.r9.elt w.o9 ht
 obtain⟨u0,u1,G0,G1,rfl,rfl,q0,q1⟩:=re
 have ev9:v9= .sl b9 o9 x.tasks.length:=ev9
 subst ev9
 have hly:(y::ys).length=ys.length+1:=rfl
 rw[hh] at q1
 obtain⟨bh,oh,cy,Gy,Gs,rfl,rfl,ay,ry,rys,hes,hst,hroom⟩:=TS q1 (dI oFi.1)
 obtain⟨vy,rfl,rvy⟩:=ry
 have bk:=bkE w
 have r7:ah h v7 x.queue F.f7:=w.r7
 have at9:At h b9 (o9+k * 12) [.int .i64 t.op,.int .i64 t.pc,.int .i64 t.s.trace,.int .i64 t.s.id,.int .i64 t.s.start,.int .i64 t.s.fin,.bool t.s.err,u0,.int .i64 t.trace,.int .i64 t.stamp,(AV.sl bh oh (ys.length+1)),.int .i64 t.h]:=el.at_
 refine acC _ _ ?_
 unfold Qd
 by_cases hq:x.c.queue≤(x.queue.length:Int)
 ·rw[if_pos hq]
  (repeat' first|refine vsw ?_|(with_reducible refine bA ?_)|(refine br ?_ ?_<;>first|exact bo|intro _)|fail)
  exact⟨rfl,_,rfl,rfl,Kp.gK aI⟩
 ·rw[if_neg hq]
  (repeat' first|refine vsx ?_|refine bP ?_|(refine br ?_ ?_<;>first|exact bo|intro _)|fail)
  have nbn:n≤h.n:=by have:=w.nb;omega
  have d79:∀ c∈F.f7,c ∉ F.f9:=fun c=>w.sep.dis 7 9 _ _ (by decide) rfl rfl c
  have lt9:∀ c∈F.f9,c < h.n:=fun c hc=>s.lt c (F.in9 c hc)
  have mGy:∀ c∈Gy,c∈F.f9:=fun c hc=>mF c (List.mem_append_right _ (List.mem_cons_of_mem _ (List.mem_append_left _ hc)))
  have mGs:∀ c∈Gs,c∈F.f9:=fun c hc=>mF c (List.mem_append_right _ (List.mem_cons_of_mem _ (List.mem_append_right _ hc)))
  have mG0:∀ c∈G0,c∈F.f9:=fun c hc=>mF c (List.mem_append_left _ hc)
  have mbh:bh∈F.f9:=mF bh (List.mem_append_right _ List.mem_cons_self)
  have mb9:=mR b9 el.mem
  have oH0:Own n h ([bh]++(Gy++Gs)):=dI oFi.1
  have oyz:Own n h (Gy++Gs):=dI oH0
  have nb9:b≠b9:=fun e=>w.n9 (e▸mb9)
  have nbh:bh≠b:=fun e=>w.n9 (e▸mbh)
  have hbh:=lt9 bh mbh
  refine iC (n:=n) r7 (⟨vy,rfl,rvy⟩:Cel.rep h y (y.cs vy) Gy) (iK w.o7 (fB oyz) (Nat.le_refl _) fun c hc hm=>d79 c hc (mGy c hm)) nbn rfl (by omega) (by omega) ?_
  intro v' h1 f _ k1 q7 o7 m7
  have n1:=k1.1
  have bk1:Bk h1 b [AV.int .i64 x.c.dK,AV.int .i64 x.c.wait,AV.int .i64 x.c.budget,AV.int .i64 x.c.cache,AV.int .i64 x.c.queue,AV.int .i64 x.c.rate,AV.int .i64 x.c.aZ,AV.int .i64 x.c.rule.kind,AV.int .i64 x.c.rule.n,AV.str x.c.rule.key,AV.str x.c.rule.text,v0,AV.int .i64 x.time,AV.bool x.shut,v1,AV.int .i64 x.bg,AV.int .i64 x.b.rate,AV.int .i64 x.b.aZ,AV.int .i64 x.b.tokens,AV.int .i64 x.b.at_,v2,AV.int .i64 x.used,AV.int .i64 x.w.now,v3,v4,v5,v6,v7,v8,(AV.sl b9 o9 x.tasks.length),v10,AV.int .i64 x.next] 0:=bI k1 bk w.n7
  have hb1:=bk1.1
  have el1:=el.kp k1 fun c hc hm=>d79 c hm (mR c hc)
  have Dv:h1.get bh=h.get bh:=k1.2 bh hbh fun hm=>d79 bh hm mbh
  have Nl:ah h1 (.sl bh (oh+1 * 7) (ys.length+1 - 1)) ys (bh::Gs):=aK k1 rys fun c hc hm=>d79 c hm (by
   rcases List.mem_cons.1 hc with e|e
   ·rw[e];exact mbh
   ·exact mGs c e)
  have cv':=q7.cell
  (repeat' first|refine vsx ?_|(with_reducible refine bA ?_)|fail)
  have gH:∀ B:Blk,((h1.upd b B).push ⟨[],7,0⟩).get bh=h.get bh:=fun B=>by
   have:bh≠h1.n:=by omega
   simp[this,nbh,Dv]
  refine Gx (i:=1) (by decide) (by rw[gH];exact hes) (by unfold mine;rw[gH];exact hst) (by rw[gH];exact hroom) (by omega) ?_
  have bGs:b ∉ bh::Gs:=fun hm=>by
   rcases List.mem_cons.1 hm with e|e
   ·exact nbh e.symm
   ·exact w.n9 (mGs b e)
  have Ns:bU n h1 Gs:=bX k1 ⟨dI oyz,fun c hc=>lt9 c (mGs c hc)⟩ fun c hc hm=>d79 c hm (mGs c hc)
  refine X0 (n:=n) (dH Nl bGs) (dM Ns fun hm=>w.n9 (mGs b hm)).1 (by simp only[aN];omega) rfl (by omega) ?_
  intro u' h3 H1 e3 r3 o3 m3
  have m3:∀ c∈H1,c∈Gs∨h1.n≤c:=fun c hc=>by have:=m3 c hc;simpa using this
  have n3:=e3.1;simp only[aN] at n3
  have bk3:Bk h3 b [AV.int .i64 x.c.dK,AV.int .i64 x.c.wait,AV.int .i64 x.c.budget,AV.int .i64 x.c.cache,AV.int .i64 x.c.queue,AV.int .i64 x.c.rate,AV.int .i64 x.c.aZ,AV.int .i64 x.c.rule.kind,AV.int .i64 x.c.rule.n,AV.str x.c.rule.key,AV.str x.c.rule.text,v0,AV.int .i64 x.time,AV.bool x.shut,v1,AV.int .i64 x.bg,AV.int .i64 x.b.rate,AV.int .i64 x.b.aZ,AV.int .i64 x.b.tokens,AV.int .i64 x.b.at_,v2,AV.int .i64 x.used,AV.int .i64 x.w.now,v3,v4,v5,v6,v',v8,(AV.sl b9 o9 x.tasks.length),v10,AV.int .i64 x.next] 0:=fq e3 (gG hb1)
  have el3:=(el1.kp (gU (b:=b)) fun c hc hm=>w.n9 (List.mem_singleton.1 hm▸mR c hc)).ext e3
  have alg:At h3 b9 (o9+k * 12) [.int .i64 t.op,.int .i64 t.pc,.int .i64 t.s.trace,.int .i64 t.s.id,.int .i64 t.s.start,.int .i64 t.s.fin,.bool t.s.err,u0,.int .i64 t.trace,.int .i64 t.stamp,(AV.sl bh oh (ys.length+1)),.int .i64 t.h]:=el3.at_
  (repeat' first|refine vsx ?_|refine bP ?_|fail)
  refine el3.st_ r3.cell rfl bV ?_
  intro h4 el4 k4 n4
  have el4:Elt Task n h4 b9 (o9+k * 12) (({t with hand:=ys}:Task).cs u0 u') (AV.sl b9 o9 x.tasks.length) x.tasks k R:=el4
  have bf:b ∉ f:=fun hm=>by
   rcases m7 b hm with q|q|q
   ·exact w.n7 q
   ·exact w.n9 (mGy b q)
   ·omega
  have b9f:∀ c∈f,c ∉ [b9]:=fun c hc hm=>by
   rw[List.mem_singleton.1 hm] at hc
   rcases m7 b9 hc with q|q|q
   ·exact d79 b9 q mb9
   ·exact hdj b9 (List.mem_append_right _ (List.mem_cons_of_mem _ (List.mem_append_left _ q))) el.mem
   ·have:=lt9 b9 mb9;omega
  have b9H:∀ c∈H1,c ∉ [b9]:=fun c hc hm=>by
   rw[List.mem_singleton.1 hm] at hc
   rcases m3 b9 hc with q|q
   ·exact hdj b9 (List.mem_append_right _ (List.mem_cons_of_mem _ (List.mem_append_right _ q))) el.mem
   ·have:=lt9 b9 mb9;omega
  have b9G:∀ c∈G0,c ∉ [b9]:=fun c hc hm=>hdj c (List.mem_append_left _ hc) (by rw[List.mem_singleton.1 hm];exact el.mem)
  have oG4:bU n h4 G0:=bX k4 (jk e3 (dM (bX k1 ⟨fB oFi.1,fun c hc=>lt9 c (mG0 c hc)⟩ fun c hc hm=>d79 c hm (mG0 c hc)) fun hm=>w.n9 (mG0 b hm))) b9G
  have K:Kp h h4 (b::(F.f7++F.f9)):=(((k1.mono fun c hc=>List.mem_cons_of_mem _ (List.mem_append_left _ hc)).trans ((gU (b:=b)).mono fun c hc=>by rw[List.mem_singleton.1 hc];exact List.mem_cons_self)).trans (Kp.gK e3)).trans (k4.mono fun c hc=>by rw[List.mem_singleton.1 hc];exact List.mem_cons_of_mem _ (List.mem_append_right _ mb9))
  have nd:=List.nodup_append.1 oFi.1.1
  obtain⟨x1,F1,e1,s1⟩:=agw (t':={t with hand:=ys}) (y:=y) (Gy:=Gy) (Gs:=Gs) (bh:=bh) (N:=h1.n) s K (bI k4 bk3 fun hm=>nb9 (List.mem_singleton.1 hm)) rfl (aK k4 (iG e3 (dH q7 bf)) b9f) (bX k4 (jk e3 (dM ⟨o7,q7.lt⟩ bf)) b9f).1 (fun c hc=>by
    rcases m7 c hc with q|q|q
    ·exact .inl q
    ·exact .inr (.inl q)
    ·exact .inr (.inr ⟨q,q7.lt c hc⟩)) el4 (aK k4 (iG e3 (dH (aK k1 q0 fun c hc hm=>d79 c hm (mG0 c hc)) fun hm=>w.n9 (mG0 b hm))) b9G) (aK k4 r3 b9H) (iK oG4.1 (bX k4 ⟨o3,r3.lt⟩ b9H).1 (Nat.le_refl _) fun c hc hm=>by
    rcases m3 c hm with q|q
    ·exact nd.2.2 c hc c (List.mem_cons_of_mem _ (List.mem_append_right _ q)) rfl
    ·have:=lt9 c (mG0 c hc);omega) (fun c hc=>(m3 c hc).imp (fun q=>List.mem_cons_of_mem _ q) id) hdj mR mF oFi n1
  obtain⟨t2,et2⟩:∃ t2,t2=({t with hand:=ys}:Task):=⟨_,rfl⟩
  have ht1:x1.tasks[k]? =some t2:=by rw[e1,et2];exact List.getElem?_set_self hk
  have hd1:x1.aF[t.h.toNat]? =some d:=by rw[e1];exact hd
  have YE:t.h.toNat < x1.aF.length:=(List.getElem?_eq_some_iff.1 hd1).1
  have hk1:k < x1.tasks.length:=(List.getElem?_eq_some_iff.1 ht1).1
  have hkl:x.tasks.length=x1.tasks.length:=by rw[e1];simp
  have w1:=s1.w
  by_cases hl:ys.length=0
  ·rw[if_pos hl,if_pos hl]
   obtain⟨b10,o10,e10⟩:=w1.r10.sl hd1;have e10:v10= .sl b10 o10 x1.aF.length:=e10;subst e10;have l10:b10 < _:=iB w1.r10
   have bk4:=bkE w1
   have al0:At h4 b9 (o9+k * 12) [.int .i64 t.op,.int .i64 t.pc,.int .i64 t.s.trace,.int .i64 t.s.id,.int .i64 t.s.start,.int .i64 t.s.fin,.bool t.s.err,u0,.int .i64 t.trace,.int .i64 t.stamp,u',.int .i64 t.h]:=el4.at_
   obtain⟨uz,IG,Jl,ed,IE,Jm,Ji,Jk,Jh,Jj,Jo,Di,rD⟩:=s1.zM (bb:=b10) (off:=o10) hd1 rfl;have ed:EK aW _ _ _ b10 (o10+t.h.toNat * 20) [.int .i64 d.op,.int .i64 d.task,.int .i64 d.s.trace,.int .i64 d.s.id,.int .i64 d.s.start,.int .i64 d.s.fin,.bool d.s.err,uz,.int .i64 d.trace,.int .i64 d.stamp,.int .i64 d.code,.bool d.keep,.bool d.void,.int .i64 d.took,.int .i64 d.n,.int .i64 d.forgot,.int .i64 d.now,.int .i64 d.inv,.int .i64 d.lin,.int .i64 d.res] _ _ _ _:=ed
   clear bk bk1 bk3 at9 alg
   (repeat' first|((with_reducible refine fC ?_);refine EK.st_ (ed.ext aI) (by rfl) (by rfl) bV ?_;intro h_ ed k_ n_)|refine vsx ?_|refine bP ?_|(refine br ?_ ?_<;>first|exact bo|intro _)|fail)
   all_goals try(exfalso;omega)
   obtain⟨x2,F2,e2,s2,m2⟩:=rD _ {d with res:=x1.time} rfl ed
   have ht2:x2.tasks[k]? =some t2:=by rw[e2];exact ht1
   obtain⟨gY,iq,lC,mM,nY,et,mK,nR,lS,lQ,nW,nU,nV,nZ,jX,jy⟩:=s2.iJ (bb:=b9) (off:=o9) ht2 rfl;have et:EK Task _ _ _ b9 (o9+k * 12) [.int .i64 t2.op,.int .i64 t2.pc,.int .i64 t2.s.trace,.int .i64 t2.s.id,.int .i64 t2.s.start,.int .i64 t2.s.fin,.bool t2.s.err,gY,.int .i64 t2.trace,.int .i64 t2.stamp,iq,.int .i64 t2.h] _ _ _ _:=et
   refine EK.st0 et (by rfl) (by rfl) bV ?_
   intro h5 et k5 n5
   obtain⟨x4,F4,e4,s4,m4⟩:=jX h5 dX .aA .aA [] [] et ah.aA ah.aA Own.nil (by simp)
   (repeat' first|refine vsw ?_|fail)
   have e:x4={x with queue:=x.queue++[y],aF:=upd x.aF t.h.toNat (fun d=>{d with res:=x.time}),tasks:=x.tasks.set k dX}:=by rw[e4,e2,e1,gV hd];simp only[List.set_set]
   rw[e] at s4
   exact⟨rfl,_,rfl,rfl,s4.done⟩
  ·rw[if_neg hl,if_neg hl]
   (repeat' first|refine vsw ?_|(refine br ?_ ?_<;>first|exact bo|intro _)|fail)
   all_goals try(exfalso;omega)
   rw[e1] at s1
   exact⟨rfl,_,rfl,rfl,s1.done⟩
end Go.Proofs.YtcgjihfngdhjjaaGreat
end
section
set_option linter.unusedSimpArgs false
set_option linter.unusedVariables false
set_option maxHeartbeats 2000000
namespace Go.Proofs.YtcgjihfngdhjjaaGreat
open Go Go.Ab
attribute[local irreducible] dD
theorem aae {h:AH} {n b:Nat} {x:Wld} {V:WV} {F:WF} {o:Trail} {keep:Bool} {vo:AV} {Fo:List Nat} (w:PW n h b x V F) (ro:ah h vo o.spans Fo) (hbo:b ∉ Fo) (hso:Sz.sz o≤67108864) (hs:x.st.length+szs x.st≤67108864) (hc:x.cache.length≤1048576):bq Tryz.prog AL [.ptr b 0,.agg (o.cs vo),.bool keep] h fun v h'=>v= .int .i64 (ko x o keep)∧M9 n h.n h b F (oQ x o keep) V h':=by
 obtain⟨v0,v1,v2,v3,v4,v5,v6,v7,v8,v9,v10⟩:=V
 have s:=w.ws
 have bk:=bkE w
 have hb:=bk.1
 have r1:ah h v1 x.st F.f1:=w.r1
 have r2:ah h v2 x.cache F.f2:=w.r2
 have nb2:b ∉ F.f2:=w.n2
 refine OW _ _ _ ?_
 unfold JL
 (repeat' first|refine vsw ?_|(with_reducible refine bA ?_)|fail)
 refine aL (Ox (l:=x.st) (id:=o.id) hs aB) ?_
 rintro u1 h1 ⟨e1,f1,q1,o1⟩
 have n1:=e1.1;(try simp only[aJ,aN] at n1)
 (repeat' first|refine vsw ?_|(with_reducible refine bA ?_)|(with_reducible refine Mj ?_)|((with_reducible refine aG Ba ?_);(refine aQ (PX hso aB) ?_))|fail)
 refine s.Xw {x with st:=fU x.st o.id,used:=wr (x.used - dW o)} (aB:ah _ _ (fU x.st o.id) f1) (aY:Own (h.n+1) _ f1) (by omega) fun x1 hx1 s1=>?_
 refine aL (OY (xs:=x.cache) (v:=⟨o.id,o.stamp,keep⟩) aB hc) ?_
 rintro _ h2 ⟨e2,u2,f2,rfl,q2,o2⟩
 have n2:=e2.1;(try simp only[aJ,aN] at n2)
 (repeat' first|refine vsx ?_|(with_reducible refine bA ?_)|fail)
 refine s1.Xv {x1 with cache:=(rem x.cache ⟨o.id,o.stamp,keep⟩ x.c.cache).1} (aB:ah _ _ (rem x.cache ⟨o.id,o.stamp,keep⟩ x.c.cache).1 f2) (aY:Own h1.n _ f2) aV (fun x2 hx2 s2=>?_) jc (by rw[hx1];rfl)
 (repeat' first|refine vsw ?_|fail)
 rw[hx2,hx1] at s2
 exact⟨rfl,_,rfl,rfl,akd s2 rfl rfl⟩
end Go.Proofs.YtcgjihfngdhjjaaGreat
end
