
/- The law FnTasks, walked. -/
import Derived.Test.YtpcgbddmdipfbaaW54
import Derived.Test.YtpcgbddmdipfbaaW16
import Derived.Test.YtpcgbddmdipfbaaW8
set_option linter.unusedSimpArgs false
set_option linter.unusedVariables false
set_option maxHeartbeats 4000000
namespace Go.Proofs.Ytpcgbddmdipfbaa
open Go Go.Ab
section
/- laws.FnTasks -/
abbrev q_laws_FnTasks_1 (v74 : AV) (v79 : AV) (v80 : AV) (v27 : AV) (v25 : AV) (v26 : AV) : Prog := .gop v74 true (.bin 2 .eql v79 v80) fun v81 => .op (.pick v74 v81 (AV.bool false)) fun v82 => .gop v82 true (.mv v27) fun v83 => .gop v82 true (.mv v25) fun v84 => .gop v82 true (.mv v26) fun v85 => .gop v82 true (.call n_spec_ItemsOf [v84, v85]) fun v86 => .gop v82 true (.call n_laws_sameSpans [v83, v86]) fun v87 => .op (.pick v82 v87 (AV.bool false)) fun v88 => .gop v88 true (.mv v27) fun v89 => .gop v88 true (.len 0 v89) fun v90 => .gop v88 true (.mv v25) fun v91 => .gop v88 true (.len 0 v91) fun v92 => .gop v88 true (.bin 0 .leq v90 v92) fun v93 => .op (.pick v88 v93 (AV.bool false)) fun v94 => .fin [.val v94]
abbrev q_laws_FnTasks_2 (v60 : AV) (v9 : AV) (v56 : AV) (v13 : AV) (v15 : AV) (v20 : AV) (v21 : AV) (v27 : AV) (v25 : AV) (v26 : AV) : Prog := .gop v60 false (.mv v9) fun v61 => .gop v60 false (.bin 0 .lss v61 (AV.int .i64 1)) fun v62 => .gop v56 true (.pick v60 (AV.bool true) v62) fun v63 => .gop v56 true (.mv v63) fun v64 => .gop v64 false (.mv v13) fun v65 => .gop v64 false (.bin 0 .geq v65 (AV.int .i64 0)) fun v66 => .gop v56 true (.pick v64 (AV.bool true) v66) fun v67 => .op (.pick v56 v67 (AV.bool false)) fun v68 => .gop v68 true (.ldn 7 v15) fun v69 => .gop v68 true (.ldn 7 v15) fun v70 => .gop v68 true (.call n_impl_ItemOk [v69]) fun v71 => .gchk v68 true (.ldn 7 v15) v70 (.gop v68 true (.call n_spec_ItemOk [v70]) fun v72 => .gop v68 true (.bin 2 .eql v71 v72) fun v73 => .op (.pick v68 v73 (AV.bool false)) fun v74 => .gop v74 true (.ldn 7 v20) fun v75 => .gop v74 true (.ldn 7 v21) fun v76 => .gop v74 true (.ldn 7 v20) fun v77 => .gop v74 true (.ldn 7 v21) fun v78 => .gop v74 true (.call n_impl_SameItem [v75, v76]) fun v79 => .gchk v74 true (.ldn 7 v20) v77 (.gchk v74 true (.ldn 7 v21) v78 (.gop v74 true (.call n_spec_SameItem [v77, v78]) fun v80 => q_laws_FnTasks_1 v74 v79 v80 v27 v25 v26)))
abbrev q_laws_FnTasks_3 (v38 : AV) (v40 : AV) (v13 : AV) (v9 : AV) (v10 : AV) (v15 : AV) (v20 : AV) (v21 : AV) (v27 : AV) (v25 : AV) (v26 : AV) : Prog := .gop v38 true (.mv v40) fun v41 => .gop v41 false (.mv v13) fun v42 => .gop v41 false (.bin 0 .geq v42 (AV.int .i64 0)) fun v43 => .gop v41 false (.mv v43) fun v44 => .gop v44 true (.mv v13) fun v45 => .gop v44 true (.mv v9) fun v46 => .gop v44 true (.bin 0 .lss v45 v46) fun v47 => .gop v41 false (.pick v44 v47 (AV.bool false)) fun v48 => .gop v38 true (.pick v41 (AV.bool true) v48) fun v49 => .op (.pick v38 v49 (AV.bool false)) fun v50 => .gop v50 true (.ldn 12 v10) fun v51 => .gop v50 true (.ldn 12 v10) fun v52 => .gop v50 true (.call n_impl_HoldsRule [v51]) fun v53 => .gchk v50 true (.ldn 12 v10) v52 (.gop v50 true (.call n_spec_HoldsRule [v52]) fun v54 => .gop v50 true (.bin 2 .eql v53 v54) fun v55 => .op (.pick v50 v55 (AV.bool false)) fun v56 => .gop v56 true (.ldn 12 v10) fun v57 => .gop v56 true (.call n_impl_HoldsRule [v57]) fun v58 => .gop v56 true (.una .not v58) fun v59 => .gop v56 true (.mv v59) fun v60 => q_laws_FnTasks_2 v60 v9 v56 v13 v15 v20 v21 v27 v25 v26)
abbrev q_laws_FnTasks_4 (v20 : AV) (v18 : AV) (v19 : AV) (x0 : AV) (v5 : AV) (v4 : AV) (v13 : AV) (v10 : AV) (v9 : AV) (v15 : AV) : Prog := .op (.alloc z7_a90) fun v21 => .op (.st 7 v20 v18) fun v22 => .op (.st 7 v21 v19) fun v23 => .op (.call n_spec_DrawItemsOf [x0]) fun v24 => .op (.ext v24 0) fun v25 => .op (.ext v24 1) fun v26 => .op (.call n_impl_ItemsOf [v25, v26]) fun v27 => .op (.ldn 12 v5) fun v28 => .op (.ldn 12 v5) fun v29 => .op (.call n_impl_TaskOk [v28, v4]) fun v30 => .chk (.ldn 12 v5) v29 (.op (.call n_spec_TaskOk [v29, v4]) fun v31 => .op (.bin 2 .eql v30 v31) fun v32 => .gop v32 true (.mv v13) fun v33 => .gop v32 true (.ldn 12 v10) fun v34 => .gop v32 true (.mv v9) fun v35 => .gop v32 true (.call n_spec_HoldsStripe [v34, v35]) fun v36 => .gop v32 true (.bin 0 .eql v33 v36) fun v37 => .op (.pick v32 v37 (AV.bool false)) fun v38 => .gop v38 true (.mv v13) fun v39 => .gop v38 true (.bin 0 .eql v39 (AV.int .i64 (-1))) fun v40 => q_laws_FnTasks_3 v38 v40 v13 v9 v10 v15 v20 v21 v27 v25 v26)
def p_laws_FnTasks (x0 : AV) : Prog := .op (.call n_laws_big [x0]) fun v1 => .ite v1 (.fin [.val (AV.bool true)]) (.op (.call n_spec_DrawTaskOk [x0]) fun v2 => .op (.ext v2 0) fun v3 => .op (.ext v2 1) fun v4 => .op (.alloc z12_f83) fun v5 => .op (.st 12 v5 v3) fun v6 => .op (.call n_spec_DrawHoldsStripe [x0]) fun v7 => .op (.ext v7 0) fun v8 => .op (.ext v7 1) fun v9 => .op (.alloc z12_f83) fun v10 => .op (.st 12 v10 v8) fun v11 => .op (.ldn 12 v10) fun v12 => .op (.call n_impl_HoldsStripe [v12, v9]) fun v13 => .op (.call n_spec_DrawItemOk [x0]) fun v14 => .op (.alloc z7_a90) fun v15 => .op (.st 7 v15 v14) fun v16 => .op (.call n_spec_DrawSameItem [x0]) fun v17 => .op (.ext v17 0) fun v18 => .op (.ext v17 1) fun v19 => .op (.alloc z7_a90) fun v20 => q_laws_FnTasks_4 v20 v18 v19 x0 v5 v4 v13 v10 v9 v15)
theorem c_laws_FnTasks (x0 : AV) : CC Try.prog n_laws_FnTasks [x0] (p_laws_FnTasks x0) := cc Try.func8 [] (fun r => if r = 10 then [(0, []), (1, []), (3, []), (4, []), (2, [3]), (5, []), (6, []), (7, []), (8, []), (9, []), (10, []), (11, []), (12, []), (13, []), (14, []), (15, []), (16, []), (17, []), (18, []), (19, []), (20, []), (21, []), (22, []), (23, []), (24, []), (25, []), (26, []), (27, []), (28, []), (30, []), (29, [30]), (31, []), (32, []), (33, []), (34, []), (35, []), (36, []), (37, []), (38, []), (39, []), (40, []), (41, []), (42, []), (43, []), (44, []), (45, []), (46, []), (47, []), (48, []), (50, []), (49, [50]), (51, []), (52, []), (53, []), (54, []), (55, []), (56, []), (58, []), (59, []), (57, [58, 59]), (60, []), (61, []), (62, []), (63, []), (64, []), (65, []), (66, []), (67, []), (68, []), (69, []), (70, []), (71, []), (72, []), (73, []), (74, []), (75, []), (76, []), (77, [])] else []) (by kernel_rfl)
end
theorem tA_ok {t : Task} (h : tA t) : Cel.ok t := ⟨rgB_ok h.1, rgB_ok h.2.1, sA_ok h.2.2.1, rgB_ok h.2.2.2.1, rgB_ok h.2.2.2.2.1, fun x hx => iA_ok (h.2.2.2.2.2.2.2 x hx), rgB_ok h.2.2.2.2.2.1⟩
theorem iA_sz {x : Itm} (h : iA x) : Sz.sz x ≤ 1300 := sA_sz h.2
theorem tA_sz {t : Task} (h : tA t) : Sz.sz t ≤ 10000 := by
  have h1 := sA_sz h.2.2.1
  have h2 := szs_le (m := 1300) fun x hx => iA_sz (h.2.2.2.2.2.2.2 x hx)
  have h3 := h.2.2.2.2.2.2.1
  show Sz.sz t.s + (t.hand.length + szs t.hand) ≤ 10000
  omega
theorem hS_b {t : Task} {n : Int} : holdsStripe t n = -1 ∨ (0 ≤ holdsStripe t n ∧ holdsStripe t n < n) := by
  unfold holdsStripe
  split
  · exact .inl rfl
  · split
    · exact .inr (stripe_b (by omega))
    · split
      · exact .inr (stripe_b (by omega))
      · exact .inl rfl
theorem hS_r {t : Task} {n : Int} (h : t.op = 2 ∧ t.pc = 2) (hn : ¬ n < 1) : 0 ≤ holdsStripe t n := by
  unfold holdsStripe
  rw [if_neg hn, if_neg (by omega), if_pos (by omega)]
  exact (stripe_b (by omega)).1
theorem law_FnTasks {h : AH} {v0 : AV} {x0 : List UInt8} {F0 : List Nat} (r0 : SlRep h v0 x0 F0) (k0 : ∀ x ∈ x0, Cel.ok x) : RCalls Try.prog n_laws_FnTasks [v0] h (.bool true) := by
  refine reader (c_laws_FnTasks _) (by simp only [old]) ?_
  unfold p_laws_FnTasks
  refine aw_rcall_b (s_laws_big r0) ?_ ?_ <;> intro hn <;> first | replace hn := bp_true hn | replace hn := bp_false hn
  · (repeat' first|refine vs ?_|(refine br ?_ ?_<;>intro _<;>try(exfalso;first|omega|contradiction))|((with_reducible refine g_idx ?_);((first|refine ix ?_|refine ixi ?_|(refine ixg ?_;intro _ _)|(refine ixgi ?_;intro _ _));first|rintro _ _ _ _ _ ⟨rfl,rfl⟩ _|rintro _ _ _ _ _ ⟨_,rfl,_⟩ _|rintro _ _ _ _ _ ⟨_,_,_,_,rfl,rfl,_,_⟩ _|intro _ _ _ _ _ _ _))|(refine sx ?_;intro _ _)|((with_reducible refine g_awp ?_);simp only [g0,g1,g2]))
    exact pb rfl
  have hs : x0.length ≤ 1048576 := by omega
  clear hn k0
  refine vs ?_
  refine aw_call (s_spec_DrawTaskOk hs slr_auto) ?_
  rintro _ h1 ⟨t, va, vb, G, Gm, k, rfl, ra, rb, e1, ht, hk0, hk1⟩
  have n1 := e1.1
  refine vs ?_
  refine aw_call (s_spec_DrawHoldsStripe hs slr_auto) ?_
  rintro _ h2 ⟨u, ua, ub, H, Hm, n, rfl, qa, qb, e2, hu, hn0, hn1⟩
  have n2 := e2.1
  simp only [push_n, upd_n] at n2
  have hS := hS_b (t := u) (n := n)
  have hR := fun h => hS_r (t := u) (n := n) h
  refine vs ?_
  refine aw_rcall (s_impl_HoldsStripe (t := u)) ?_
  refine aw_call (s_spec_DrawItemOk hs slr_auto) ?_
  rintro _ h3 ⟨x, _, Gx, rfl, ⟨wx, rfl, rx⟩, -, e3, hx⟩
  have n3 := e3.1
  simp only [push_n, upd_n] at n3
  refine vs ?_
  refine aw_call (s_spec_DrawSameItem hs slr_auto) ?_
  rintro _ h4 ⟨a, _, Ga, b, _, Gb, rfl, ⟨wa, rfl, pa⟩, -, ⟨wb, rfl, pb1⟩, -, e4, ha, hb⟩
  have n4 := e4.1
  simp only [push_n, upd_n] at n4
  refine vs ?_
  refine aw_call (s_spec_DrawItemsOf hs slr_auto) ?_
  rintro _ h5 ⟨w, l, Gl, z, rfl, rl, -, e5, ⟨hl, hla⟩, hz0, hz1⟩
  have n5 := e5.1
  simp only [push_n, upd_n] at n5
  have hls := szs_le (m := 1300) fun x hx => iA_sz (hla x hx)
  refine vs ?_
  refine aw_call (s_impl_ItemsOf (l := l) (by omega) slr_auto) ?_
  rintro w6 h6 ⟨e6, G6, r6, -⟩
  have n6 := e6.1
  have hlen := itemsOf_len l z
  refine vs ?_
  refine aw_rcall (s_impl_TaskOk (t := t) (tA_ok ht) (by have := tA_sz ht; omega) slr_auto slr_auto) ?_
  refine vs ?_
  refine aw_rcall (s_spec_TaskOk (t := t) (tA_ok ht) (by have := tA_sz ht; omega) slr_auto slr_auto) ?_
  refine aw_beql ?_
  rw [beq_self_eq_true]
  refine vs ?_
  refine aw_rcall (s_spec_HoldsStripe (t := u)) ?_
  refine vs ?_
  have ixs : Sz.sz x ≤ 67108864 := by have := iA_sz hx; omega
  by_cases hh : u.op = 2 ∧ u.pc = 2
  · have bpe : bp (u.op = 2 ∧ u.pc = 2) = true := bp_t hh
    have hR2 := hR hh
    clear hR
    (repeat' first|refine vs ?_|((with_reducible refine aw_beql ?_);rw [beq_self_eq_true])|(refine br ?_ ?_<;>intro _<;>try(exfalso;first|omega|contradiction))|((with_reducible refine g_callf n_impl_HoldsRule ?_);(refine aw_rcall (s_impl_HoldsRule (t := u)) ?_; rw [bpe]))|((with_reducible refine g_callf n_spec_HoldsRule ?_);(refine aw_rcall (s_spec_HoldsRule (t := u)) ?_; rw [bpe]))|((with_reducible refine g_callf n_impl_ItemOk ?_);refine aw_rcall (s_impl_ItemOk (x := x) (sA_ok hx.2) ixs slr_auto) ?_)|((with_reducible refine g_callf n_spec_ItemOk ?_);refine aw_rcall (s_spec_ItemOk (x := x) (sA_ok hx.2) ixs slr_auto) ?_)|((with_reducible refine g_callf n_impl_SameItem ?_);refine aw_rcall (s_impl_SameItem slr_auto slr_auto) ?_)|((with_reducible refine g_callf n_spec_SameItem ?_);refine aw_rcall (s_spec_SameItem slr_auto slr_auto) ?_)|((with_reducible refine g_callf n_spec_ItemsOf ?_);(refine aw_call (s_spec_ItemsOf (l := l) (by omega) slr_auto) ?_; rintro w7 h7 ⟨e7, G7, r7, -⟩; have n7 := e7.1))|((with_reducible refine g_callf n_laws_sameSpans ?_);(refine aw_rcall (s_laws_sameSpans (itemsOf l z) _ _ _ _ _ slr_auto slr_auto) ?_))|((with_reducible refine g_idx ?_);((first|refine ix ?_|refine ixi ?_|(refine ixg ?_;intro _ _)|(refine ixgi ?_;intro _ _));first|rintro _ _ _ _ _ ⟨rfl,rfl⟩ _|rintro _ _ _ _ _ ⟨_,rfl,_⟩ _|rintro _ _ _ _ _ ⟨_,_,_,_,rfl,rfl,_,_⟩ _|intro _ _ _ _ _ _ _))|(refine sx ?_;intro _ _)|((with_reducible refine g_awp ?_);simp only [g0,g1,g2]))
    all_goals exact pb rfl
  · have bpe : bp (u.op = 2 ∧ u.pc = 2) = false := bp_f hh
    clear hR
    (repeat' first|refine vs ?_|((with_reducible refine aw_beql ?_);rw [beq_self_eq_true])|(refine br ?_ ?_<;>intro _<;>try(exfalso;first|omega|contradiction))|((with_reducible refine g_callf n_impl_HoldsRule ?_);(refine aw_rcall (s_impl_HoldsRule (t := u)) ?_; rw [bpe]))|((with_reducible refine g_callf n_spec_HoldsRule ?_);(refine aw_rcall (s_spec_HoldsRule (t := u)) ?_; rw [bpe]))|((with_reducible refine g_callf n_impl_ItemOk ?_);refine aw_rcall (s_impl_ItemOk (x := x) (sA_ok hx.2) ixs slr_auto) ?_)|((with_reducible refine g_callf n_spec_ItemOk ?_);refine aw_rcall (s_spec_ItemOk (x := x) (sA_ok hx.2) ixs slr_auto) ?_)|((with_reducible refine g_callf n_impl_SameItem ?_);refine aw_rcall (s_impl_SameItem slr_auto slr_auto) ?_)|((with_reducible refine g_callf n_spec_SameItem ?_);refine aw_rcall (s_spec_SameItem slr_auto slr_auto) ?_)|((with_reducible refine g_callf n_spec_ItemsOf ?_);(refine aw_call (s_spec_ItemsOf (l := l) (by omega) slr_auto) ?_; rintro w7 h7 ⟨e7, G7, r7, -⟩; have n7 := e7.1))|((with_reducible refine g_callf n_laws_sameSpans ?_);(refine aw_rcall (s_laws_sameSpans (itemsOf l z) _ _ _ _ _ slr_auto slr_auto) ?_))|((with_reducible refine g_idx ?_);((first|refine ix ?_|refine ixi ?_|(refine ixg ?_;intro _ _)|(refine ixgi ?_;intro _ _));first|rintro _ _ _ _ _ ⟨rfl,rfl⟩ _|rintro _ _ _ _ _ ⟨_,rfl,_⟩ _|rintro _ _ _ _ _ ⟨_,_,_,_,rfl,rfl,_,_⟩ _|intro _ _ _ _ _ _ _))|(refine sx ?_;intro _ _)|((with_reducible refine g_awp ?_);simp only [g0,g1,g2]))
    all_goals exact pb rfl
end Go.Proofs.Ytpcgbddmdipfbaa
