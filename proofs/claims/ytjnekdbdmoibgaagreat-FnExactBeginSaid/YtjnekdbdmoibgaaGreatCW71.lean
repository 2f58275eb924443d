import Derived.Test.YtjnekdbdmoibgaaGreatCW60
import Derived.Test.YtjnekdbdmoibgaaGreatCW29
import Derived.Test.YtjnekdbdmoibgaaGreatCW70
/- Who begins to judge. -/
set_option linter.unusedSimpArgs false
set_option linter.unusedVariables false
set_option maxHeartbeats 600000
namespace Go.Proofs.YtjnekdbdmoibgaaGreat
open Go Go.Ab
attribute [local irreducible] afill
section
/- spec.l18Begin -/
def p_spec_l18Begin (x0 x1 : AV) : Prog := .op (.nilck x0) fun v1 => .op (.fad 26 v1) fun v2 => .op (.ld1 v2) fun v3 => .op (.idx 3 v3 (AV.int .i64 0)) fun v4 => .op (.ldn 3 v4) fun v5 => .op (.alloc [AV.int .i64 0, AV.int .i64 0, AV.int .i64 0]) fun v6 => .op (.st 3 v6 v5) fun v7 => .op (.bslice 3 0 [] []) fun v8 => .op (.nilck x0) fun v9 => .op (.fad 26 v9) fun v10 => .op (.ld1 v10) fun v11 => .op (.slc 3 v11 (some (AV.int .i64 1)) none none) fun v12 => .op (.app 3 24 v8 v12) fun v13 => .op (.nilck x0) fun v14 => .op (.fad 26 v14) fun v15 => .op (.st 1 v15 v13) fun v16 => .op (.nilck x0) fun v17 => .op (.fad 29 v17) fun v18 => .op (.ld1 v18) fun v19 => .op (.fad 1 v6) fun v20 => .op (.ld1 v20) fun v21 => .op (.fad 0 v6) fun v22 => .op (.ld1 v22) fun v23 => .op (.nilck x0) fun v24 => .op (.fad 30 v24) fun v25 => .op (.ld1 v25) fun v26 => .op (.len 0 v26) fun v27 => .op (.build z12_f83 [(0, 1, AV.int .i64 2), (8, 1, v21), (9, 1, v23), (11, 1, v27)]) fun v28 => .op (.idx 12 v19 x1) fun v29 => .op (.st 12 v29 v28) fun v30 => .op (.nilck x0) fun v31 => .op (.fad 30 v31) fun v32 => .op (.ld1 v32) fun v33 => .op (.fad 1 v6) fun v34 => .op (.ld1 v34) fun v35 => .op (.fad 0 v6) fun v36 => .op (.ld1 v36) fun v37 => .op (.nilck x0) fun v38 => .op (.fad 22 v38) fun v39 => .op (.fad 0 v39) fun v40 => .op (.ld1 v40) fun v41 => .op (.nilck x0) fun v42 => .op (.fad 12 v42) fun v43 => .op (.ld1 v43) fun v44 => .op (.build z20_1ff [(0, 1, AV.int .i64 2), (1, 1, x1), (8, 1, v35), (9, 1, v37), (16, 1, v41), (17, 1, v44), (18, 1, AV.int .i64 (-1)), (19, 1, AV.int .i64 (-1))]) fun v45 => .op (.bslice 20 1 z20_1ff [(0, 20, v45)]) fun v46 => .op (.app 20 168 v33 v46) fun v47 => .op (.nilck x0) fun v48 => .op (.fad 30 v48) fun v49 => .op (.st 1 v49 v47) fun v50 => .op (.nilck x0) fun v51 => .op (.fad 12 v51) fun v52 => .op (.ld1 v52) fun v53 => .op (.bin 0 .add v53 (AV.int .i64 1)) fun v54 => .op (.nilck x0) fun v55 => .op (.fad 12 v55) fun v56 => .op (.st 1 v56 v54) fun v57 => .fin []
theorem c_spec_l18Begin (x0 x1 : AV) : CC Tryz.prog n_spec_l18Begin [x0, x1] (p_spec_l18Begin x0 x1) := cc Tryz.func92 [] (fun r => if r = 2 then [(0, []), (1, []), (2, []), (3, []), (4, []), (5, []), (6, []), (7, []), (8, []), (9, []), (10, []), (11, []), (12, []), (13, []), (14, []), (15, []), (16, [])] else if r = 3 then [(0, []), (1, []), (2, []), (3, []), (4, []), (5, []), (6, []), (7, []), (8, []), (9, []), (10, []), (11, []), (12, []), (13, []), (14, []), (15, []), (16, []), (17, []), (18, []), (19, []), (20, []), (21, []), (22, []), (23, []), (24, [])] else []) (by kernel_rfl)
end
theorem beginW_c {x : Wld} {k : Nat} {t : Ab.Timer} {rest : List Ab.Timer} (hd : x.due = t :: rest) : beginW x k = { x with due := rest, tasks := x.tasks.set k ⟨2, 0, noSpan, t.trace, t.id, [], x.deeds.length⟩, deeds := x.deeds ++ [⟨2, k, noSpan, t.trace, t.id, 0, false, false, 0, 0, 0, x.w.now, x.time, -1, -1⟩], time := wr (x.time + 1) } := by
  unfold beginW; rw [hd]
theorem s_spec_l18Begin {h : AH} {n b k : Nat} {x : Wld} {V : WV} {F : WF} {t : Ab.Timer} {rest : List Ab.Timer} (w : PW n h b x V F) (hn : n ≤ h.n) (hd : x.due = t :: rest) (hk : k < x.tasks.length) (hs : Sz.sz x ≤ 67108864) : ACalls Tryz.prog n_spec_l18Begin [.ptr b 0, .int .i64 (k : Int)] h fun v h' => v = .tup [] ∧ Went n h.n h b F (beginW x k) h' := by
  rw [wsz] at hs
  rw [beginW_c hd]
  have hdl : x.due.length = rest.length + 1 := by rw [hd]; rfl
  obtain ⟨tk, htk, -, -⟩ := drop_step hk
  have bk : Bk h b [AV.int .i64 x.c.stripes, AV.int .i64 x.c.wait, AV.int .i64 x.c.budget, AV.int .i64 x.c.cache, AV.int .i64 x.c.queue, AV.int .i64 x.c.rate, AV.int .i64 x.c.burst, AV.int .i64 x.c.rule.kind, AV.int .i64 x.c.rule.n, AV.str x.c.rule.key, AV.str x.c.rule.text, V.v0, AV.int .i64 x.time, AV.bool x.shut, V.v1, AV.int .i64 x.ruleHeld, AV.int .i64 x.b.rate, AV.int .i64 x.b.burst, AV.int .i64 x.b.tokens, AV.int .i64 x.b.at_, V.v2, AV.int .i64 x.used, AV.int .i64 x.w.now, V.v3, V.v4, V.v5, V.v6, V.v7, V.v8, V.v9, V.v10, AV.int .i64 x.next] 0 := w.bk
  have hb := bk.1
  have lt := w.own.2
  have h6 : ∀ c ∈ F.f6, c < h.n := w.l6.2
  refine c_spec_l18Begin _ _ ?_
  unfold p_spec_l18Begin
  (repeat' first|refine vs ?_|((with_reducible refine aw_nilck ?_))|(refine br ?_ ?_<;>intro _<;>try(exfalso;first|omega|contradiction))|((with_reducible refine g_idx ?_);((first|refine ix ?_|refine ixi ?_|(refine ixg ?_;intro _ _)|(refine ixgi ?_;intro _ _));first|rintro _ _ _ _ _ ⟨rfl,rfl⟩ _|rintro _ _ _ _ _ ⟨_,rfl,_⟩ _|rintro _ _ _ _ _ ⟨_,_,_,_,rfl,rfl,_,_⟩ _|intro _ _ _ _ _ _ _))|(refine sx ?_;intro _ _)|((with_reducible refine g_awp ?_);simp only [g0,g1,g2]))
  refine aw_idx (i := 0) w.r6 (x := t) (by rw [hd]; rfl) rfl ?_
  rintro bt ot _ _ a ⟨rfl, rfl⟩ _
  (repeat' first|refine vs ?_|((with_reducible refine aw_nilck ?_))|(refine br ?_ ?_<;>intro _<;>try(exfalso;first|omega|contradiction))|((with_reducible refine g_idx ?_);((first|refine ix ?_|refine ixi ?_|(refine ixg ?_;intro _ _)|(refine ixgi ?_;intro _ _));first|rintro _ _ _ _ _ ⟨rfl,rfl⟩ _|rintro _ _ _ _ _ ⟨_,rfl,_⟩ _|rintro _ _ _ _ _ ⟨_,_,_,_,rfl,rfl,_,_⟩ _|intro _ _ _ _ _ _ _))|(refine sx ?_;intro _ _)|((with_reducible refine g_awp ?_);simp only [g0,g1,g2]))
  obtain ⟨u1, u2, B, E1, E2, eF, -, -, p2, t2, -, s2⟩ := w.r6.cut (P := Tryz.prog) w.o6 (show 1 ≤ x.due.length by omega)
  rw [hd, List.drop_succ_cons, List.drop_zero] at p2
  refine aw_go (s2 _ _ (fun c hc => (ext_auto : Ext h _).2 c (h6 c (by rw [eF]; simp [hc]))) ?_)
  refine appE (ys := rest) (slr_auto : SlRep _ u2 rest (B ++ E2)) (tail_own p2 _) (Nat.le_refl _) rfl (by omega) ?_
  intro v1 h1 G1 e1 q1 o1
  have n1 := e1.1; (try simp only [push_n, upd_n] at n1)
  (repeat' first|refine vs ?_|((with_reducible refine aw_nilck ?_))|(refine br ?_ ?_<;>intro _<;>try(exfalso;first|omega|contradiction))|((with_reducible refine g_idx ?_);((first|refine ix ?_|refine ixi ?_|(refine ixg ?_;intro _ _)|(refine ixgi ?_;intro _ _));first|rintro _ _ _ _ _ ⟨rfl,rfl⟩ _|rintro _ _ _ _ _ ⟨_,rfl,_⟩ _|rintro _ _ _ _ _ ⟨_,_,_,_,rfl,rfl,_,_⟩ _|intro _ _ _ _ _ _ _))|(refine sx ?_;intro _ _)|((with_reducible refine g_awp ?_);simp only [g0,g1,g2]))
  refine aw_gen (R := fun h2 => Bk h2 b [AV.int .i64 x.c.stripes, AV.int .i64 x.c.wait, AV.int .i64 x.c.budget, AV.int .i64 x.c.cache, AV.int .i64 x.c.queue, AV.int .i64 x.c.rate, AV.int .i64 x.c.burst, AV.int .i64 x.c.rule.kind, AV.int .i64 x.c.rule.n, AV.str x.c.rule.key, AV.str x.c.rule.text, V.v0, AV.int .i64 x.time, AV.bool x.shut, V.v1, AV.int .i64 x.ruleHeld, AV.int .i64 x.b.rate, AV.int .i64 x.b.burst, AV.int .i64 x.b.tokens, AV.int .i64 x.b.at_, V.v2, AV.int .i64 x.used, AV.int .i64 x.w.now, V.v3, V.v4, V.v5, v1, V.v7, V.v8, V.v9, V.v10, AV.int .i64 x.next] 0 ∧ Bk h2 h.n [.int .i64 t.id, .int .i64 t.trace, .int .i64 t.at_] 0 ∧ Kp h h2 [b] ∧ SlRep h2 v1 rest G1 ∧ Own (h.n + 1) h2 G1 ∧ h1.n ≤ h2.n) ⟨bk_auto, bk_auto, ?_, slr_auto, ol_auto, by simp⟩ ?_
  · exact (kp_auto : Kp h h1 [b]).updX (by simp) _
  rintro h2 ⟨b2, bt2, k2, q2, o2, n2⟩
  have f1 : ∀ c ∈ G1, h.n + 1 ≤ c := fun c hc => (o2.2 c hc).1
  have fa : ∀ c ∈ G1, c ∉ F.a := fun c hc hm => by have := lt c hm; have := f1 c hc; omega
  have w1 : PW n h2 b { x with due := rest } { V with v6 := v1 } { F with f6 := G1 } := w.putG6 b2 (k2.mono fun c hc => by rw [List.mem_singleton.1 hc]; exact List.mem_cons_self) q2 (o2.mono (by omega) fun _ _ => rfl) (fun hm => by have := f1 _ hm; omega) fun c hc => .inr (fa c hc)
  have mv1 : Mv h.n h b F h2 { F with f6 := G1 } := Mv.ofX k2 (fun c hc => .inl (List.mem_singleton.1 hc)) (Nat.le_refl _) fun c hc => (WF.set6 hc).elim (fun q => .inr (by have := f1 c q; omega)) .inl
  have r102 : SlRep h2 V.v10 x.deeds F.f10 := w1.r10
  (repeat' first|refine vs ?_|((with_reducible refine aw_nilck ?_))|(refine br ?_ ?_<;>intro _<;>try(exfalso;first|omega|contradiction))|((with_reducible refine g_idx ?_);((first|refine ix ?_|refine ixi ?_|(refine ixg ?_;intro _ _)|(refine ixgi ?_;intro _ _));first|rintro _ _ _ _ _ ⟨rfl,rfl⟩ _|rintro _ _ _ _ _ ⟨_,rfl,_⟩ _|rintro _ _ _ _ _ ⟨_,_,_,_,rfl,rfl,_,_⟩ _|intro _ _ _ _ _ _ _))|(refine sx ?_;intro _ _)|((with_reducible refine g_awp ?_);simp only [g0,g1,g2]))
  obtain ⟨bb, off, _, Fi, R, ev, ⟨y0, y1, H0, H1, rfl, rfl, -, -⟩, oF, el, hdj, mR, mF⟩ := w1.r9.elt w1.o9 htk
  have ev : V.v9 = .sl bb off x.tasks.length := ev
  have hbb := el.own.2 bb el.mem
  have hF9 : ∀ c ∈ F.f9, c < h.n := w.l9.2
  have mR9 : ∀ c ∈ R, c ∈ F.f9 := mR
  have hbh : bb < h.n := hF9 bb (mR9 bb el.mem)
  have hbbb : b ≠ bb := fun e => w.n9 (e ▸ mR9 bb el.mem)
  have el : Elt Task n h2 bb (off + k * 12) [.int .i64 tk.op, .int .i64 tk.pc, .int .i64 tk.s.trace, .int .i64 tk.s.id, .int .i64 tk.s.start, .int .i64 tk.s.fin, .bool tk.s.err, y0, .int .i64 tk.trace, .int .i64 tk.stamp, y1, .int .i64 tk.h] V.v9 x.tasks k R := el
  rw [ev]
  refine aw_idx_raw hk ?_
  have sp : SP [.int .i64 tk.op, .int .i64 tk.pc, .int .i64 tk.s.trace, .int .i64 tk.s.id, .int .i64 tk.s.start, .int .i64 tk.s.fin, .bool tk.s.err, y0, .int .i64 tk.trace, .int .i64 tk.stamp, y1, .int .i64 tk.h] 0 [.int .i64 2, .int .i64 0, .int .i64 0, .int .i64 0, .int .i64 0, .int .i64 0, .bool false, .nils, .int .i64 t.trace, .int .i64 t.id, .nils, .int .i64 x.deeds.length] [.int .i64 2, .int .i64 0, .int .i64 0, .int .i64 0, .int .i64 0, .int .i64 0, .bool false, .nils, .int .i64 t.trace, .int .i64 t.id, .nils, .int .i64 x.deeds.length] := sp_auto
  refine Elt.st0 el rfl rfl sp ?_
  intro h3 el3 k3 n3
  obtain ⟨F2, w2, m2, kk2⟩ := w1.fin9 (y' := ⟨2, 0, noSpan, t.trace, t.id, [], x.deeds.length⟩) (G := []) el3 ⟨.nils, .nils, [], [], rfl, rfl, SlRep.nils, SlRep.nils⟩ Own.nil (by simp) mR (by simp) (k3.mono fun c hc => by rw [List.mem_singleton.1 hc]; exact mR bb el.mem)
  have w2 : PW n h3 b { x with due := rest, tasks := x.tasks.set k ⟨2, 0, noSpan, t.trace, t.id, [], x.deeds.length⟩ } { V with v6 := v1 } F2 := w2
  have mv2 := mv1.trans (Mv.of kk2 (by omega) fun c hc => (m2 c hc).elim .inl fun q => absurd q List.not_mem_nil)
  have bt3 := bk_kp1 k3 bt2 (by simp; omega)
  have b3 := bk_kp1 k3 b2 (by simpa using hbbb)
  have r10 : SlRep h3 V.v10 x.deeds F2.f10 := w2.r10
  (repeat' first|refine vs ?_|((with_reducible refine aw_nilck ?_))|(refine br ?_ ?_<;>intro _<;>try(exfalso;first|omega|contradiction))|((with_reducible refine g_idx ?_);((first|refine ix ?_|refine ixi ?_|(refine ixg ?_;intro _ _)|(refine ixgi ?_;intro _ _));first|rintro _ _ _ _ _ ⟨rfl,rfl⟩ _|rintro _ _ _ _ _ ⟨_,rfl,_⟩ _|rintro _ _ _ _ _ ⟨_,_,_,_,rfl,rfl,_,_⟩ _|intro _ _ _ _ _ _ _))|(refine sx ?_;intro _ _)|((with_reducible refine g_awp ?_);simp only [g0,g1,g2]))
  refine w2.app10 (a := ⟨2, k, noSpan, t.trace, t.id, 0, false, false, 0, 0, 0, x.w.now, x.time, -1, -1⟩) (G := []) ⟨.nils, rfl, SlRep.nils⟩ Own.nil (by simp) (by omega) ?_ ?_ ?_
  · show (x.deeds.length + 1) * 168 ≤ _
    omega
  · show x.deeds.length + 1 < _
    omega
  intro v4 h4 f4 k4 bk4 c4 fin4
  have bk4 : Bk h4 b [AV.int .i64 x.c.stripes, AV.int .i64 x.c.wait, AV.int .i64 x.c.budget, AV.int .i64 x.c.cache, AV.int .i64 x.c.queue, AV.int .i64 x.c.rate, AV.int .i64 x.c.burst, AV.int .i64 x.c.rule.kind, AV.int .i64 x.c.rule.n, AV.str x.c.rule.key, AV.str x.c.rule.text, V.v0, AV.int .i64 x.time, AV.bool x.shut, V.v1, AV.int .i64 x.ruleHeld, AV.int .i64 x.b.rate, AV.int .i64 x.b.burst, AV.int .i64 x.b.tokens, AV.int .i64 x.b.at_, V.v2, AV.int .i64 x.used, AV.int .i64 x.w.now, V.v3, V.v4, V.v5, v1, V.v7, V.v8, V.v9, V.v10, AV.int .i64 x.next] 0 := bk4
  have hb4 := bk4.1
  (repeat' first|refine vs ?_|((with_reducible refine aw_nilck ?_))|((with_reducible refine aw_addw ?_))|(refine br ?_ ?_<;>intro _<;>try(exfalso;first|omega|contradiction))|((with_reducible refine g_idx ?_);((first|refine ix ?_|refine ixi ?_|(refine ixg ?_;intro _ _)|(refine ixgi ?_;intro _ _));first|rintro _ _ _ _ _ ⟨rfl,rfl⟩ _|rintro _ _ _ _ _ ⟨_,rfl,_⟩ _|rintro _ _ _ _ _ ⟨_,_,_,_,rfl,rfl,_,_⟩ _|intro _ _ _ _ _ _ _))|(refine sx ?_;intro _ _)|((with_reducible refine g_awp ?_);simp only [g0,g1,g2]))
  obtain ⟨F3, w3, m3, kk3⟩ := fin4 (h4.upd b ⟨_, 0, 0⟩) (bk_upd hb4) kp_upd
  have w3 : PW n (h4.upd b ⟨_, 0, 0⟩) b { x with due := rest, tasks := x.tasks.set k ⟨2, 0, noSpan, t.trace, t.id, [], x.deeds.length⟩, deeds := x.deeds ++ [⟨2, k, noSpan, t.trace, t.id, 0, false, false, 0, 0, 0, x.w.now, x.time, -1, -1⟩] } { V with v6 := v1, v10 := v4 } F3 := w3
  have w4 := w3.put (x' := { x with due := rest, tasks := x.tasks.set k ⟨2, 0, noSpan, t.trace, t.id, [], x.deeds.length⟩, deeds := x.deeds ++ [⟨2, k, noSpan, t.trace, t.id, 0, false, false, 0, 0, 0, x.w.now, x.time, -1, -1⟩], time := wr (x.time + 1) }) (h' := (h4.upd b ⟨_, 0, 0⟩).upd b ⟨_, 0, 0⟩) (bk_upd (by simpa using hb4)) kp_upd
  refine ⟨rfl, _, rfl, rfl, _, F3, w4, mv2.trans (Mv.of (kk3.trans (kp_upd.mono fun c hc => by rw [List.mem_singleton.1 hc]; exact List.mem_cons_self)) (by omega) fun c hc => ?_)⟩
  rcases m3 c hc with q | q | q
  · exact .inl q
  · cases q
  · exact .inr (by omega)
end Go.Proofs.YtjnekdbdmoibgaaGreat
