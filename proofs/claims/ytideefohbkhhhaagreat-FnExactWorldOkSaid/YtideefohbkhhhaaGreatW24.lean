
/- Worlds: the tasks, their deeds and locks, by the reference. -/
import Derived.Test.YtideefohbkhhhaaGreatW22
set_option linter.unusedSimpArgs false
set_option linter.unusedVariables false
set_option maxHeartbeats 8000000
namespace Go.Proofs.YtideefohbkhhhaaGreat
open Go Go.Ab
section
/- spec.l16Tasks -/
def p_spec_l16Tasks (x0 : AV) : Prog := .op (.box x0) fun v1 => .op (.bslice 1 0 [] []) fun v2 => .loop [v2, AV.int .i64 0] (fun vs3 => .op (.fad 14 v1) fun v5 => .op (.ld1 v5) fun v6 => .op (.len 0 v6) fun v7 => .op (.bin 0 .lss (g vs3 1) v7) fun v8 => .ite v8 (.op (.bslice 1 1 [AV.int .i64 0] [(0, 1, AV.int .i64 (-1))]) fun v9 => .op (.app 1 8 (g vs3 0) v9) fun v10 => .op (.bin 0 .add (g vs3 1) (AV.int .i64 1)) fun v11 => .leaf 0 [v10, v11]) (.leaf 2 [g vs3 0, g vs3 1])) fun t4 vs3 => tsel t4 1 (.leaf 1 vs3) (tsel t4 2 (.loop [AV.int .i64 (-1), AV.int .i64 0, .tup []] (fun vs12 => .op (.fad 29 v1) fun v14 => .op (.ld1 v14) fun v15 => .op (.len 0 v15) fun v16 => .op (.bin 0 .lss (g vs12 1) v16) fun v17 => .ite v17 (.op (.fad 29 v1) fun v18 => .op (.ld1 v18) fun v19 => .op (.idx 12 v19 (g vs12 1)) fun v20 => .op (.ldn 12 v20) fun v21 => .op (.alloc z12_f83) fun v22 => .op (.st 12 v22 v21) fun v23 => .op (.ldn 12 v22) fun v24 => .op (.call n_spec_TaskOk [v24, g vs12 1]) fun v25 => .op (.una .not v25) fun v26 => .gop v26 false (.ldn 32 v1) fun v27 => .gop v26 false (.mv (g vs12 1)) fun v28 => .gop v26 false (.call n_spec_l16Deed [v27, v28]) fun v29 => .gop v26 false (.una .not v29) fun v30 => .op (.pick v26 (AV.bool true) v30) fun v31 => .gop v31 false (.fad 9 v22) fun v32 => .gop v31 false (.ld1 v32) fun v33 => .gop v31 false (.fad 31 v1) fun v34 => .gop v31 false (.ld1 v34) fun v35 => .gop v31 false (.bin 0 .geq v33 v35) fun v36 => .op (.pick v31 (AV.bool true) v36) fun v37 => .ite v37 (.fin [.val (AV.bool false)]) (.op (.ldn 12 v22) fun v38 => .op (.fad 14 v1) fun v39 => .op (.ld1 v39) fun v40 => .op (.len 0 v40) fun v41 => .op (.call n_spec_HoldsStripe [v38, v41]) fun v42 => .op (.bin 0 .geq v42 (AV.int .i64 0)) fun v43 => .scope (.ite v43 (.op (.idx 1 (g vs3 0) v42) fun v44 => .op (.ld1 v44) fun v45 => .op (.bin 0 .neq v45 (AV.int .i64 (-1))) fun v46 => .ite v46 (.fin [.val (AV.bool false)]) (.op (.idx 1 (g vs3 0) v42) fun v47 => .op (.st 1 v47 (g vs12 1)) fun v48 => .leaf 0 [])) (.leaf 0 [])) (fun vs49 => .op (.ldn 12 v22) fun v51 => .op (.call n_spec_HoldsRule [v51]) fun v52 => .scope (.ite v52 (.op (.bin 0 .neq (g vs12 0) (AV.int .i64 (-1))) fun v53 => .ite v53 (.fin [.val (AV.bool false)]) (.leaf 0 [g vs12 1])) (.leaf 0 [g vs12 0])) (fun vs54 => .op (.bin 0 .add (g vs12 1) (AV.int .i64 1)) fun v56 => .leaf 0 [g vs54 0, v56, v22]) fun t55 vs54 => tsel t55 1 (.leaf 1 vs54) .bad) fun t50 vs49 => tsel t50 1 (.leaf 1 vs49) .bad)) (.leaf 4 [g vs12 0, g vs12 1, g vs12 2])) fun t13 vs12 => tsel t13 1 (.leaf 1 vs12) (tsel t13 4 (.loop [AV.int .i64 0] (fun vs57 => .op (.fad 14 v1) fun v59 => .op (.ld1 v59) fun v60 => .op (.len 0 v60) fun v61 => .op (.bin 0 .lss (g vs57 0) v61) fun v62 => .ite v62 (.op (.fad 14 v1) fun v63 => .op (.ld1 v63) fun v64 => .op (.idx 2 v64 (g vs57 0)) fun v65 => .op (.fad 0 v65) fun v66 => .op (.ld1 v66) fun v67 => .op (.idx 1 (g vs3 0) (g vs57 0)) fun v68 => .op (.ld1 v68) fun v69 => .op (.bin 0 .neq v67 v69) fun v70 => .ite v70 (.fin [.val (AV.bool false)]) (.op (.bin 0 .add (g vs57 0) (AV.int .i64 1)) fun v71 => .leaf 0 [v71])) (.leaf 6 [g vs57 0])) fun t58 vs57 => tsel t58 1 (.leaf 1 vs57) (tsel t58 6 (.op (.fad 15 v1) fun v72 => .op (.ld1 v72) fun v73 => .op (.bin 0 .eql v73 (g vs12 0)) fun v74 => .fin [.val v74]) .bad)) .bad)) .bad)
theorem c_spec_l16Tasks (x0 : AV) : CC Tryz.prog n_spec_l16Tasks [x0] (p_spec_l16Tasks x0) := cc Tryz.func54 [1, 3, 4, 5, 6, 7, 9] (fun r => if r = 25 then [(0, []), (1, []), (2, []), (3, []), (4, []), (5, []), (6, []), (7, []), (8, []), (9, []), (10, [])] else []) (by kernel_rfl)
end
theorem s_spec_l16Tasks {h : AH} {x : Wld} {cs : List AV} {F : List Nat} (ok : Cel.ok x) (hs : Sz.sz x ≤ 67108864) (r : Cel.rep h x cs F) :
    RCalls Tryz.prog n_spec_l16Tasks [.agg cs] h (.bool (bp (tasksQ x))) := by
  obtain ⟨v0, v1, v2, v3, v4, v5, v6, v7, v8, v9, v10, F0, F1, F2, F3, F4, F5, F6, F7, F8, F9, F10, rfl, rfl, r0, r1, r2, r3, r4, r5, r6, r7, r8, r9, r10⟩ := r
  obtain ⟨ok_c, ok_time, ok_st, ok_ruleHeld, ok_b, ok_cache, ok_used, ok_w, ok_due, ok_queue, ok_out, ok_tasks, ok_deeds, ok_next⟩ := ok
  have hs : Sz.sz x.c + (x.st.length + szs x.st) + (x.cache.length + szs x.cache) + Sz.sz x.w + (x.due.length + szs x.due) + (x.queue.length + szs x.queue) + (x.out.length + szs x.out) + (x.tasks.length + szs x.tasks) + (x.deeds.length + szs x.deeds) ≤ 67108864 := hs
  have hl1 := r1.small
  have hl9 := r9.small
  refine reader (c_spec_l16Tasks _) (by simp only [old]) ?_
  unfold p_spec_l16Tasks
  refine vs ?_
  obtain ⟨re, oe⟩ := empty_own (h := h.push ⟨(x.cs v0 v1 v2 v3 v4 v5 v6 v7 v8 v9 v10), 0, 0⟩) (α := Int) (w := 1) rfl
  refine aw_upto x.st.length (fun i vs h1 => ∃ v G, vs = [v, .int .i64 (i : Int)] ∧ i ≤ x.st.length ∧ Ext (h.push ⟨(x.cs v0 v1 v2 v3 v4 v5 v6 v7 v8 v9 v10), 0, 0⟩) h1 ∧ SlRep h1 v (List.replicate i (-1 : Int)) G ∧ Own (h.n + 1) h1 G) ⟨_, _, rfl, Nat.zero_le _, ext_auto, re, oe _ (Nat.le_refl _)⟩ ?_
  rintro i vs h1 _ ⟨v, G, rfl, hi, e1, rG, oG⟩
  have n1 := e1.1
  simp only [push_n] at n1
  simp only [g0, g1]
  refine vs ?_
  refine br (fun hlt => ?_) (fun hge => ?_)
  · have hlr : (List.replicate i (-1 : Int)).length = i := by simp
    refine vs ?_
    refine app1F (n := h.n + 1) (xs := List.replicate i (-1 : Int)) (a := -1) (G := []) rG ⟨rfl, rfl⟩ (by simpa using oG) n1 rfl (by omega) (by omega) ?_
    intro v' h' F' ek kp r' o' _
    (repeat' first|refine vs ?_|(refine br ?_ ?_<;>intro _<;>try(exfalso;first|omega|contradiction))|((with_reducible refine g_idx ?_);((first|refine ix ?_|refine ixi ?_|(refine ixg ?_;intro _ _)|(refine ixgi ?_;intro _ _));first|rintro _ _ _ _ _ ⟨rfl,rfl⟩ _|rintro _ _ _ _ _ ⟨_,rfl,_⟩ _|rintro _ _ _ _ _ ⟨_,_,_,_,rfl,rfl,_,_⟩ _|intro _ _ _ _ _ _ _))|(refine sx ?_;intro _ _)|((with_reducible refine g_awp ?_);simp only [g0,g1,g2]))
    exact ⟨by omega, v', F', rfl, by omega, ek _ e1 (by simp), by rw [List.replicate_succ' (n := i)]; exact r', o'⟩
  have ei : i = x.st.length := by omega
  subst ei
  (repeat' first|refine vs ?_|(refine br ?_ ?_<;>intro _<;>try(exfalso;first|omega|contradiction))|((with_reducible refine g_idx ?_);((first|refine ix ?_|refine ixi ?_|(refine ixg ?_;intro _ _)|(refine ixgi ?_;intro _ _));first|rintro _ _ _ _ _ ⟨rfl,rfl⟩ _|rintro _ _ _ _ _ ⟨_,rfl,_⟩ _|rintro _ _ _ _ _ ⟨_,_,_,_,rfl,rfl,_,_⟩ _|intro _ _ _ _ _ _ _))|(refine sx ?_;intro _ _)|((with_reducible refine g_awp ?_);simp only [g0,g1,g2]))
  refine aw_upto x.tasks.length (fun i vs h2 => ∃ y1 hs r G, vs = [.int .i64 r, .int .i64 (i : Int), y1] ∧ i ≤ x.tasks.length ∧ Ext (h.push ⟨(x.cs v0 v1 v2 v3 v4 v5 v6 v7 v8 v9 v10), 0, 0⟩) h2 ∧ h.n + 1 ≤ h2.n ∧ hs.length = x.st.length ∧ locks x.st.length x.tasks i = some (hs, r) ∧ SlRep h2 v hs G ∧ Own (h.n + 1) h2 G ∧ Upto x.tasks (fun k t => taskD x k t ∧ t.stamp < x.next) i) ⟨_, _, _, G, rfl, Nat.zero_le _, ext_auto, n1, by simp, rfl, rG, oG, up0⟩ ?_
  clear hi hge e1 n1 rG oG re oe
  rintro i vs h2 _ ⟨y1, hs', r', G', rfl, hi, e2, hn2, hlen, hlk, rG', oG', hu⟩
  simp only [g0, g1, g2]
  refine vs ?_
  refine br (fun hlt => ?_) (fun hge => ?_)
  · obtain ⟨t, ht, -, -⟩ := drop_step (show i < x.tasks.length by omega)
    have hm := List.mem_of_getElem? ht
    have hsz := szs_mem hm
    have okt := ok_tasks t hm
    have hbz := holds_b t x.st.length
    refine vs ?_
    refine aw_idx r9 ht rfl ?_
    rintro b o _ Fi a ⟨va, vb, Fa, Fb, rfl, rfl, ra, rb⟩ _
    (repeat' first|refine vs ?_|(refine br ?_ ?_<;>intro _<;>try(exfalso;first|omega|contradiction))|((with_reducible refine g_callf n_spec_TaskOk ?_);(refine aw_rcall_b (s_spec_TaskOk (t := t) okt (by omega) slr_auto slr_auto) ?_ ?_ <;> intro hn <;> first | replace hn := bp_true hn | replace hn := bp_false hn))|((with_reducible refine g_callf n_spec_l16Deed ?_);(refine aw_rcall_b (s_spec_l16Deed ht (taskOk_h (by assumption)) (taskOk_op3 (by assumption)) ⟨_, _, _, _, _, _, _, _, _, _, _, _, _, _, _, _, _, _, _, _, _, _, rfl, rfl, slr_auto, slr_auto, slr_auto, slr_auto, slr_auto, slr_auto, slr_auto, slr_auto, slr_auto, slr_auto, slr_auto⟩) ?_ ?_ <;> intro hn <;> first | replace hn := bp_true hn | replace hn := bp_false hn))|((with_reducible refine g_idx ?_);((first|refine ix ?_|refine ixi ?_|(refine ixg ?_;intro _ _)|(refine ixgi ?_;intro _ _));first|rintro _ _ _ _ _ ⟨rfl,rfl⟩ _|rintro _ _ _ _ _ ⟨_,rfl,_⟩ _|rintro _ _ _ _ _ ⟨_,_,_,_,rfl,rfl,_,_⟩ _|intro _ _ _ _ _ _ _))|(refine sx ?_;intro _ _)|((with_reducible refine g_awp ?_);simp only [g0,g1,g2]))
    all_goals first
      | (refine pf fun k => ?_; have k := k.1 i t ht; first | exact absurd k.1.1 (by assumption) | exact absurd k.1.2 (by assumption) | (have := k.2; omega))
      | skip
    all_goals
      have hD : taskD x i t ∧ t.stamp < x.next := ⟨⟨by assumption, by assumption⟩, by omega⟩
      refine aw_rcall (s_spec_HoldsStripe (t := t)) ?_
      refine br (fun hge2 => ?_) (fun hlt2 => ?_)
      · have hzl := hbz.2 hge2
        obtain ⟨y, hy, -, -⟩ := drop_step (show (holdsStripe t x.st.length).toNat < hs'.length by omega)
        refine vs ?_
        refine aw_getI slr_auto (by omega) hy ?_
        refine br (fun hne => ?_) (fun heq => ?_)
        · (repeat' first|refine vs ?_|(refine br ?_ ?_<;>intro _<;>try(exfalso;first|omega|contradiction))|((with_reducible refine g_idx ?_);((first|refine ix ?_|refine ixi ?_|(refine ixg ?_;intro _ _)|(refine ixgi ?_;intro _ _));first|rintro _ _ _ _ _ ⟨rfl,rfl⟩ _|rintro _ _ _ _ _ ⟨_,rfl,_⟩ _|rintro _ _ _ _ _ ⟨_,_,_,_,rfl,rfl,_,_⟩ _|intro _ _ _ _ _ _ _))|(refine sx ?_;intro _ _)|((with_reducible refine g_awp ?_);simp only [g0,g1,g2]))
          exact pf fun k => by
            obtain ⟨-, h5, r5, hl5, -⟩ := k
            rw [locks_mono (locks_f1 hlk ht (takeS_f hge2 hy hne)) (by omega)] at hl5; cases hl5
        · refine aw_ite_f (aw_setI (n := h.n + 1) (y := i) slr_auto ol_auto (by omega) (by omega) ?_)
          intro h3 ek3 kp3 hn3 rG3 oG3
          have e3 := ek3 _ (ext_auto : Ext (h.push ⟨(x.cs v0 v1 v2 v3 v4 v5 v6 v7 v8 v9 v10), 0, 0⟩) _) (by simp)
          have hsS := takeS_y (k := i) hge2 hy heq
          have bt : Bk h3 h2.n [.int .i64 t.op, .int .i64 t.pc, .int .i64 t.s.trace, .int .i64 t.s.id, .int .i64 t.s.start, .int .i64 t.s.fin, .bool t.s.err, va, .int .i64 t.trace, .int .i64 t.stamp, vb, .int .i64 t.h] 0 := bk_kp1 kp3 bk_auto (nin_lt rG' (Nat.le_refl _))
          (repeat' first|refine vs ?_|(refine br ?_ ?_<;>intro _<;>try(exfalso;first|omega|contradiction))|((with_reducible refine g_callf n_spec_HoldsRule ?_);(refine aw_rcall_b (s_spec_HoldsRule (t := t)) ?_ ?_ <;> intro hn <;> first | replace hn := bp_true hn | replace hn := bp_false hn))|((with_reducible refine g_idx ?_);((first|refine ix ?_|refine ixi ?_|(refine ixg ?_;intro _ _)|(refine ixgi ?_;intro _ _));first|rintro _ _ _ _ _ ⟨rfl,rfl⟩ _|rintro _ _ _ _ _ ⟨_,rfl,_⟩ _|rintro _ _ _ _ _ ⟨_,_,_,_,rfl,rfl,_,_⟩ _|intro _ _ _ _ _ _ _))|(refine sx ?_;intro _ _)|((with_reducible refine g_awp ?_);simp only [g0,g1,g2]))
          all_goals first
            | (refine pf fun k => ?_; obtain ⟨-, h5, r5, hl5, -⟩ := k; rw [locks_mono (locks_f2 hlk ht (takeR_f (by assumption) (by assumption))) (by omega)] at hl5; cases hl5)
            | exact ⟨by omega, _, _, _, _, rfl, by omega, ext_auto, om_auto, by simpa using hlen, locks_s hlk ht hsS (takeR_y (by assumption) (by assumption)), slr_auto, ol_auto, upS hu ht hD⟩
            | exact ⟨by omega, _, _, _, _, rfl, by omega, ext_auto, om_auto, by simpa using hlen, locks_s hlk ht hsS (takeR_n (by assumption)), slr_auto, ol_auto, upS hu ht hD⟩
      · have hsS := takeS_n (k := i) (hs := hs') hlt2
        (repeat' first|refine vs ?_|(refine br ?_ ?_<;>intro _<;>try(exfalso;first|omega|contradiction))|((with_reducible refine g_callf n_spec_HoldsRule ?_);(refine aw_rcall_b (s_spec_HoldsRule (t := t)) ?_ ?_ <;> intro hn <;> first | replace hn := bp_true hn | replace hn := bp_false hn))|((with_reducible refine g_idx ?_);((first|refine ix ?_|refine ixi ?_|(refine ixg ?_;intro _ _)|(refine ixgi ?_;intro _ _));first|rintro _ _ _ _ _ ⟨rfl,rfl⟩ _|rintro _ _ _ _ _ ⟨_,rfl,_⟩ _|rintro _ _ _ _ _ ⟨_,_,_,_,rfl,rfl,_,_⟩ _|intro _ _ _ _ _ _ _))|(refine sx ?_;intro _ _)|((with_reducible refine g_awp ?_);simp only [g0,g1,g2]))
        all_goals first
          | (refine pf fun k => ?_; obtain ⟨-, h5, r5, hl5, -⟩ := k; rw [locks_mono (locks_f2 hlk ht (takeR_f (by assumption) (by assumption))) (by omega)] at hl5; cases hl5)
          | exact ⟨by omega, _, _, _, _, rfl, by omega, ext_auto, om_auto, hlen, locks_s hlk ht hsS (takeR_y (by assumption) (by assumption)), slr_auto, ol_auto, upS hu ht hD⟩
          | exact ⟨by omega, _, _, _, _, rfl, by omega, ext_auto, om_auto, hlen, locks_s hlk ht hsS (takeR_n (by assumption)), slr_auto, ol_auto, upS hu ht hD⟩
  · have ei : i = x.tasks.length := by omega
    subst ei
    have hu := upEnd hu
    (repeat' first|refine vs ?_|(refine br ?_ ?_<;>intro _<;>try(exfalso;first|omega|contradiction))|((with_reducible refine g_idx ?_);((first|refine ix ?_|refine ixi ?_|(refine ixg ?_;intro _ _)|(refine ixgi ?_;intro _ _));first|rintro _ _ _ _ _ ⟨rfl,rfl⟩ _|rintro _ _ _ _ _ ⟨_,rfl,_⟩ _|rintro _ _ _ _ _ ⟨_,_,_,_,rfl,rfl,_,_⟩ _|intro _ _ _ _ _ _ _))|(refine sx ?_;intro _ _)|((with_reducible refine g_awp ?_);simp only [g0,g1,g2]))
    refine aw_upto x.st.length (fun i vs h3 => vs = [.int .i64 (i : Int)] ∧ i ≤ x.st.length ∧ Ext h2 h3 ∧ Upto x.st (fun i s => hs'[i]? = some s.held) i) ⟨rfl, Nat.zero_le _, Ext.refl _, up0⟩ ?_
    rintro i vs h3 _ ⟨rfl, hi3, e3, hu3⟩
    simp only [g0]
    refine vs ?_
    refine br (fun hlt => ?_) (fun hge3 => ?_)
    · obtain ⟨s, hx, -, -⟩ := drop_step (show i < x.st.length by omega)
      obtain ⟨y, hy, -, -⟩ := drop_step (show i < hs'.length by omega)
      (repeat' first|refine vs ?_|(refine br ?_ ?_<;>intro _<;>try(exfalso;first|omega|contradiction))|((with_reducible refine g_idx ?_);((first|refine ix ?_|refine ixi ?_|(refine ixg ?_;intro _ _)|(refine ixgi ?_;intro _ _));first|rintro _ _ _ _ _ ⟨rfl,rfl⟩ _|rintro _ _ _ _ _ ⟨_,rfl,_⟩ _|rintro _ _ _ _ _ ⟨_,_,_,_,rfl,rfl,_,_⟩ _|intro _ _ _ _ _ _ _))|(refine sx ?_;intro _ _)|((with_reducible refine g_awp ?_);simp only [g0,g1,g2]))
      · exact pf fun k => by
          obtain ⟨-, h5, r5, hl5, hh, -⟩ := k
          rw [hlk] at hl5; cases hl5
          have := hh i s hx
          rw [hy] at this; cases this
          contradiction
      · exact ⟨by omega, rfl, by omega, ext_auto, upS hu3 hx (by rw [hy]; congr 1; omega)⟩
    · rw [show i = x.st.length by omega] at hu3
      have hu3 := upEnd hu3
      (repeat' first|refine vs ?_|(refine br ?_ ?_<;>intro _<;>try(exfalso;first|omega|contradiction))|((with_reducible refine g_idx ?_);((first|refine ix ?_|refine ixi ?_|(refine ixg ?_;intro _ _)|(refine ixgi ?_;intro _ _));first|rintro _ _ _ _ _ ⟨rfl,rfl⟩ _|rintro _ _ _ _ _ ⟨_,rfl,_⟩ _|rintro _ _ _ _ _ ⟨_,_,_,_,rfl,rfl,_,_⟩ _|intro _ _ _ _ _ _ _))|(refine sx ?_;intro _ _)|((with_reducible refine g_awp ?_);simp only [g0,g1,g2]))
      · exact pt ⟨hu, _, _, hlk, hu3, by assumption⟩
      · exact pf fun k => by
          obtain ⟨-, h5, r5, hl5, hh, hr⟩ := k
          rw [hlk] at hl5; cases hl5
          contradiction
end Go.Proofs.YtideefohbkhhhaaGreat
