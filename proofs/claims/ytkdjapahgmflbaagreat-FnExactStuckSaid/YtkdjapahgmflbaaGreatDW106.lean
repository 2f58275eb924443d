import Derived.Test.YtkdjapahgmflbaaGreatDW105
import Derived.Test.YtkdjapahgmflbaaGreatDW89
set_option linter.unusedSimpArgs false
set_option linter.unusedVariables false
set_option maxHeartbeats 4000000
set_option maxRecDepth 20000
namespace Go.Proofs.YtkdjapahgmflbaaGreat
open Go Go.Ab
attribute[local irreducible] cZ
section
def QY (x0 x1:AV):Prog:=Lf 27 x0 fun a=>Ln 0 a fun a=>.op (.bg x0) fun b=>.op (.fad 0 b) fun b=>Lg 4 b fun b=>Bn .geq a b fun a=>.ite a (.fin [.val (.bool false)]) (Lf 29 x0 fun a=>Ix 12 a x1 fun a=>Lg 10 a fun a=>Lf 27 x0 fun b=>Ix 7 a (.int .i64 0) fun c=>Ld 7 c fun c=>.op (.aU 7 1 iO [(0,7,c)]) fun c=>.op (.app 7 72 b c) fun b=>Sf 27 x0 b fun _=>.op (.bg x0) fun b=>.op (.fad 29 b) fun b=>.op (.ld1 b) fun c=>.op (.aU 7 0 [] []) fun d=>.op (.slc 7 a (some (.int .i64 1)) none none) fun e=>.op (.app 7 72 d e) fun d=>.chk (.ld1 b) c (Ix 12 c x1 fun b=>Sg 10 b d fun _=>Ln 0 a fun a=>Bn .eql a (.int .i64 1) fun a=>.scope (.ite a (Lf 30 x0 fun a=>Lf 29 x0 fun b=>Ix 12 b x1 fun b=>Lg 11 b fun b=>Lf 12 x0 fun c=>Ix 20 a b fun a=>Sg 19 a c fun _=>Lf 29 x0 fun a=>.op (.build gJ []) fun b=>Ix 12 a x1 fun a=>.op (.st 12 a b) fun _=>.leaf 0 []) (.leaf 0 [])) (fun _=>.fin [.val (.bool true)]) fun a b=>aB a 1 (.leaf 1 b) .bad))
theorem aeY (x0 x1:AV):CC Tryz.prog J7 [x0,x1] (QY x0 x1):=cc Tryz.func239 [] (fun r=>if r=1 then[(0,[]),(1,[]),(2,[]),(3,[]),(4,[]),(5,[]),(6,[]),(7,[]),(8,[]),(9,[]),(10,[])] else if r=4 then[(0,[]),(1,[]),(2,[]),(3,[]),(4,[]),(5,[]),(6,[]),(7,[]),(8,[]),(9,[]),(10,[]),(11,[]),(12,[])] else if r=5 then[(0,[]),(1,[]),(2,[]),(3,[]),(4,[]),(5,[]),(6,[]),(7,[]),(8,[3]),(9,[]),(10,[]),(11,[])] else if r=7 then[(0,[]),(1,[]),(2,[]),(3,[]),(4,[]),(5,[]),(6,[]),(7,[]),(8,[]),(9,[]),(10,[]),(11,[]),(12,[]),(13,[]),(14,[]),(15,[]),(16,[]),(17,[]),(18,[])] else[])
def RI (x0 x1:AV):Prog:=Lf 29 x0 fun a=>Ix 12 a x1 fun a=>Lf 27 x0 fun b=>Ln 0 b fun b=>.op (.bg x0) fun c=>.op (.fad 0 c) fun c=>Lg 4 c fun c=>Bn .geq b c fun b=>.ite b (.fin [.val (.bool false)]) (Lf 27 x0 fun b=>Lf 10 a fun c=>Ix 7 c (.int .i64 0) fun c=>Ld 7 c fun c=>.op (.aU 7 1 iO [(0,7,c)]) fun c=>.op (.app 7 72 b c) fun b=>Sf 27 x0 b fun _=>Lf 10 a fun b=>.op (.slc 7 b (some (.int .i64 1)) none none) fun b=>Sf 10 a b fun _=>Lf 10 a fun a=>Ln 0 a fun a=>Bn .eql a (.int .i64 0) fun a=>.scope (.ite a (Cl Fq [x0,x1] fun _=>.leaf 0 []) (.leaf 0 [])) (fun _=>.fin [.val (.bool true)]) fun a b=>aB a 1 (.leaf 1 b) .bad)
theorem afN (x0 x1:AV):CC Tryz.prog Kn [x0,x1] (RI x0 x1):=cc Tryz.func125 [] (fun r=>if r=2 then[(0,[]),(1,[]),(2,[]),(3,[]),(4,[]),(5,[]),(6,[]),(7,[]),(8,[]),(9,[]),(10,[])] else if r=4 then[(0,[]),(1,[]),(2,[]),(3,[]),(4,[]),(5,[]),(6,[]),(7,[]),(8,[]),(9,[]),(10,[]),(11,[]),(12,[]),(13,[]),(14,[]),(15,[])] else[])
end
theorem am2 {α:Type} [Cel α] {P:Program} {h:AH} {Q:Nat→List AV→AH→Prop} {k:AV→Prog} {n es bytes:Nat} {y:AV} {ys:List α} {Fy:List Nat} (ry:au h y ys Fy) (o:Own n h Fy.tail) (hn:n≤h.n) (hw:es=Cel.w α) (hs:ys.length * bytes≤70368744177664)
  (hk:∀ v h' F',Ext h h'→au h' v ys F'→Own n h' F'→(∀ c∈F',c∈Fy.tail∨h.n≤c)→(k v).awp P h' Q):(Prog.op (.app es bytes (.sl h.n 0 0) y) k).awp P (h.push ⟨[],es,0⟩) Q:=by
 have hsm:=ry.small
 obtain⟨re,oe⟩:=jy (h:=h) (α:=α) hw
 have hlt:=ry.lt
 have NK:∀ b∈Fy.tail,b < h.n:=fun b hb=>hlt b (List.mem_of_mem_tail hb)
 refine vW (n:=n) (xs:=[]) re (oQ ry) ?_ (by simp;omega) hw (by simpa using hs) (by simpa using hsm) ?_
 ·exact mM hn rfl NK o
 ·intro v h' F' kp r' o' hF
  refine hk v h' F' ⟨Nat.le_trans (by simp) kp.1,fun b hb=>?_⟩ r' o' fun c hc=>?_
  ·rw[kp.2 b (by simp;omega) (by simp;omega)]
   have:b≠h.n:=by omega
   simp[this]
  ·rcases hF c hc with q|q|q
   ·exact .inr (by rw[List.mem_singleton.1 q];exact Nat.le_refl _)
   ·exact .inl q
   ·exact .inr (Nat.le_trans (by simp) q)
section
variable{n m b N b9 oo k bh:Nat} {h0 h g:AH} {F0 F:WF} {x:Wld} {v0 v1 v2 v3 v4 v5 v6 v7 v8 v9 v10 v' u0 u1:AV} {f R G0 Gy Gs H1:List Nat} {t':Task} {y:Itm} {cells:List AV}
theorem VT (s:WS n m h0 b F0 h x ⟨v0,v1,v2,v3,v4,v5,v6,v7,v8,v9,v10⟩ F) (K:Kp h g (b::(F.f7++F.f9))) (bk:Bk g b cells 0) (hc:cells=Wld.cv {x with queue:=x.queue++[y],tasks:=x.tasks.set k t'} ⟨v0,v1,v2,v3,v4,v5,v6,v',v8,v9,v10⟩) (q7:au g v' (x.queue++[y]) f) (o7:Own n g f) (m7:∀ c∈f,c∈F.f7∨c∈Gy∨(h.n≤c∧c < N)) (el:Elt Task n g b9 oo (t'.cs u0 u1) v9 x.tasks k R) (q0:au g u0 t'.s.attrs G0) (q1:au g u1 t'.hand H1) (oH:Own n g (G0++H1)) (mH:∀ c∈H1,c∈bh::Gs∨N≤c) (hdj:∀ c∈G0++(bh::(Gy++Gs)),c ∉ R) (mR:∀ c∈R,c∈F.f9) (mF:∀ c∈G0++(bh::(Gy++Gs)),c∈F.f9) (oF:bO n h (G0++(bh::(Gy++Gs)))) (hN:h.n≤N):∃ x1 F',x1={x with queue:=x.queue++[y],tasks:=x.tasks.set k t'}∧WS n m h0 b F0 g x1 ⟨v0,v1,v2,v3,v4,v5,v6,v',v8,v9,v10⟩ F':=by
 have w:=s.w
 have lt:=s.lt
 have lt9:∀ c∈F.f9,c < h.n:=fun c hc=>lt c (F.in9 c hc)
 have lt7:∀ c∈F.f7,c < h.n:=fun c hc=>lt c (F.in7 c hc)
 have hb:=w.bk.1
 have d79:∀ c∈F.f7,c ∉ F.f9:=fun c=>w.sep.dis 7 9 _ _ (by decide) rfl rfl c
 have mG0:∀ c∈G0,c∈F.f9:=fun c hc=>mF c (List.mem_append_left _ hc)
 have mGy:∀ c∈Gy,c∈F.f9:=fun c hc=>mF c (List.mem_append_right _ (List.mem_cons_of_mem _ (List.mem_append_left _ hc)))
 have mGs:∀ c∈bh::Gs,c∈F.f9:=fun c hc=>mF c (List.mem_append_right _ (by
  rcases List.mem_cons.1 hc with e|e
  ·rw[e];exact List.mem_cons_self
  ·exact List.mem_cons_of_mem _ (List.mem_append_right _ e)))
 have nd:=List.nodup_append.1 oF.1.1
 have ndy:∀ c∈Gy,c ∉ bh::Gs:=fun c hc hm=>by
  have n1:=List.nodup_cons.1 nd.2.1
  rcases List.mem_cons.1 hm with e|e
  ·exact n1.1 (e▸List.mem_append_left _ hc)
  ·exact(List.nodup_append.1 n1.2).2.2 c hc c e rfl
 have anB:∀ c∈Gy,c ∉ G0:=fun c hc hm=>nd.2.2 c hm c (List.mem_cons_of_mem _ (List.mem_append_left _ hc)) rfl
 have hRy:∀ c∈Gy,c ∉ R:=fun c hc=>hdj c (List.mem_append_right _ (List.mem_cons_of_mem _ (List.mem_append_left _ hc)))
 have hRs:∀ c∈bh::Gs,c ∉ R:=fun c hc=>hdj c (List.mem_append_right _ (by
  rcases List.mem_cons.1 hc with e|e
  ·rw[e];exact List.mem_cons_self
  ·exact List.mem_cons_of_mem _ (List.mem_append_right _ e)))
 obtain⟨F9,r9,o9,m9⟩:=el.done (x':=t') (Fi':=G0++H1) ⟨u0,u1,G0,H1,rfl,rfl,q0,q1⟩ oH (fun c hc hR=>by
  rcases List.mem_append.1 hc with q|q
  ·exact hdj c (List.mem_append_left _ q) hR
  ·rcases mH c q with q|q
   ·exact hRs c q hR
   ·have:=lt9 c (mR c hR);omega)
 have m9':∀ c∈F9,c∈R∨c∈G0∨c∈bh::Gs∨N≤c:=fun c hc=>by
  rcases m9 c hc with q|q
  ·exact .inl q
  ·rcases List.mem_append.1 q with q|q
   ·exact .inr (.inl q)
   ·exact .inr (.inr (mH c q))
 have w':=amB (x':={x with queue:=x.queue++[y],tasks:=x.tasks.set k t'}) w (hc▸bk) K q7 r9 o7 o9
  (fun hm=>by
   rcases m7 b hm with q|q|q
   ·exact w.n7 q
   ·exact w.n9 (mGy b q)
   ·omega)
  (fun hm=>by
   rcases m9' b hm with q|q|q|q
   ·exact w.n9 (mR b q)
   ·exact w.n9 (mG0 b q)
   ·exact w.n9 (mGs b q)
   ·omega)
  (fun c h1 h2=>by
   rcases m7 c h1 with q|q|q<;>rcases m9' c h2 with p|p|p|p
   ·exact d79 c q (mR c p)
   ·exact d79 c q (mG0 c p)
   ·exact d79 c q (mGs c p)
   ·have:=lt7 c q;omega
   ·exact hRy c q p
   ·exact anB c q p
   ·exact ndy c q p
   ·have:=lt9 c (mGy c q);omega
   ·have:=lt9 c (mR c p);omega
   ·have:=lt9 c (mG0 c p);omega
   ·have:=lt9 c (mGs c p);omega
   ·omega)
  (fun c hc=>by
   rcases m7 c hc with q|q|q
   ·exact .inl q
   ·exact .inr (.inl (mGy c q))
   ·exact .inr (.inr fun hm=>by have:=lt c hm;omega))
  (fun c hc=>by
   rcases m9' c hc with q|q|q|q
   ·exact .inr (.inl (mR c q))
   ·exact .inr (.inl (mG0 c q))
   ·exact .inr (.inl (mGs c q))
   ·exact .inr (.inr fun hm=>by have:=lt c hm;omega))
 refine⟨_,_,rfl,s.to w' (K.mono fun c hc=>?_) fun c hc=>?_⟩
 ·rcases List.mem_cons.1 hc with e|e
  ·rw[e];exact List.mem_cons_self
  ·rcases List.mem_append.1 e with e|e
   ·exact List.mem_cons_of_mem _ (F.in7 c e)
   ·exact List.mem_cons_of_mem _ (F.in9 c e)
 ·have hm:=s.hm
  rcases akD hc with q|q|q
  ·rcases m7 c q with q|q|q
   ·exact .inl (F.in7 c q)
   ·exact .inl (F.in9 c (mGy c q))
   ·exact .inr (by omega)
  ·rcases m9' c q with q|q|q|q
   ·exact .inl (F.in9 c (mR c q))
   ·exact .inl (F.in9 c (mG0 c q))
   ·exact .inl (F.in9 c (mGs c q))
   ·exact .inr (by omega)
  ·exact .inl q
end
end Go.Proofs.YtkdjapahgmflbaaGreat
