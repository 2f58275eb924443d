
/- The law FnDeeds, walked. -/
import Derived.Test.YtpcgbddmdipfbaaW46
import Derived.Test.YtpcgbddmdipfbaaW13
import Derived.Test.YtpcgbddmdipfbaaW41
set_option linter.unusedSimpArgs false
set_option linter.unusedVariables false
set_option maxHeartbeats 4000000
namespace Go.Proofs.Ytpcgbddmdipfbaa
open Go Go.Ab
section
/- laws.FnDeeds -/
abbrev q_laws_FnDeeds_1 (v80 : AV) (vs67 : List AV) (v85 : AV) (v84 : AV) (vs76 : List AV) : Prog := .gop v80 true (.mv (g vs67 1)) fun v86 => .gop v80 true (.idx 20 v85 v86) fun v87 => .gop v80 true (.ldn 20 v87) fun v88 => .gop v80 true (.call n_impl_Ahead [v84, v88]) fun v89 => .op (.pick v80 v89 (AV.bool false)) fun v90 => .ite v90 (.fin [.val (AV.bool false)]) (.op (.bin 0 .add (g vs67 1) (AV.int .i64 1)) fun v91 => .leaf 0 [g vs76 0, v91])
abbrev q_laws_FnDeeds_2 (v55 : AV) (v58 : AV) (v22 : AV) (v60 : AV) (v12 : AV) (v13 : AV) : Prog := .gop v55 false (.mv v58) fun v61 => .gop v61 true (.mv v22) fun v62 => .gop v61 true (.bin 0 .leq v62 (AV.int .i64 5)) fun v63 => .gop v55 false (.pick v61 v63 (AV.bool false)) fun v64 => .gop v55 false (.bin 2 .neq v60 v64) fun v65 => .op (.pick v55 (AV.bool true) v65) fun v66 => .ite v66 (.fin [.val (AV.bool false)]) (.loop [AV.int .i64 0, AV.int .i64 0] (fun vs67 => .op (.len 0 v12) fun v69 => .op (.bin 0 .lss (g vs67 1) v69) fun v70 => .ite v70 (.op (.idx 20 v12 (g vs67 1)) fun v71 => .op (.fad 18 v71) fun v72 => .op (.ld1 v72) fun v73 => .op (.bin 0 .neq v73 (AV.int .i64 (-1))) fun v74 => .scope (.ite v74 (.op (.bin 0 .add (g vs67 0) (AV.int .i64 1)) fun v75 => .leaf 0 [v75]) (.leaf 0 [g vs67 0])) (fun vs76 => .op (.idx 20 v12 (g vs67 1)) fun v78 => .op (.ldn 20 v78) fun v79 => .op (.call n_impl_DeedOk [v79]) fun v80 => .gop v80 true (.mv v12) fun v81 => .gop v80 true (.mv (g vs67 1)) fun v82 => .gop v80 true (.idx 20 v81 v82) fun v83 => .gop v80 true (.ldn 20 v83) fun v84 => .gop v80 true (.mv v12) fun v85 => q_laws_FnDeeds_1 v80 vs67 v85 v84 vs76) fun t77 vs76 => tsel t77 1 (.leaf 1 vs76) .bad) (.leaf 2 [g vs67 0, g vs67 1])) fun t68 vs67 => tsel t68 1 (.leaf 1 vs67) (tsel t68 2 (.loop [AV.int .i64 1] (fun vs92 => .op (.len 0 v13) fun v94 => .op (.bin 0 .lss (g vs92 0) v94) fun v95 => .ite v95 (.op (.bin 0 .sub (g vs92 0) (AV.int .i64 1)) fun v96 => .op (.idx 1 v13 v96) fun v97 => .op (.ld1 v97) fun v98 => .op (.idx 20 v12 v98) fun v99 => .op (.fad 18 v99) fun v100 => .op (.ld1 v100) fun v101 => .op (.idx 1 v13 (g vs92 0)) fun v102 => .op (.ld1 v102) fun v103 => .op (.idx 20 v12 v103) fun v104 => .op (.fad 18 v104) fun v105 => .op (.ld1 v105) fun v106 => .op (.bin 0 .gtr v101 v106) fun v107 => .ite v107 (.fin [.val (AV.bool false)]) (.op (.bin 0 .add (g vs92 0) (AV.int .i64 1)) fun v108 => .leaf 0 [v108])) (.leaf 4 [g vs92 0])) fun t93 vs92 => tsel t93 1 (.leaf 1 vs92) (tsel t93 4 (.op (.len 0 v13) fun v109 => .op (.bin 0 .eql (g vs67 0) v109) fun v110 => .fin [.val v110]) .bad)) .bad))
abbrev q_laws_FnDeeds_3 (v35 : AV) (v40 : AV) (v17 : AV) (v18 : AV) (v22 : AV) (v12 : AV) (v13 : AV) : Prog := .op (.pick v35 (AV.bool true) v40) fun v41 => .gop v41 false (.ldn 20 v17) fun v42 => .gop v41 false (.ldn 20 v18) fun v43 => .gop v41 false (.ldn 20 v17) fun v44 => .gop v41 false (.ldn 20 v18) fun v45 => .gop v41 false (.call n_impl_Ahead [v42, v43]) fun v46 => .gchk v41 false (.ldn 20 v17) v44 (.gchk v41 false (.ldn 20 v18) v45 (.gop v41 false (.call n_spec_Ahead [v44, v45]) fun v47 => .gop v41 false (.bin 2 .neq v46 v47) fun v48 => .op (.pick v41 (AV.bool true) v48) fun v49 => .gop v49 false (.mv v22) fun v50 => .gop v49 false (.mv v22) fun v51 => .gop v49 false (.call n_impl_CodeName [v50]) fun v52 => .gop v49 false (.call n_spec_CodeName [v51]) fun v53 => .gop v49 false (.bin 1 .neq v52 v53) fun v54 => .op (.pick v49 (AV.bool true) v54) fun v55 => .gop v55 false (.mv v22) fun v56 => .gop v55 false (.mv v22) fun v57 => .gop v55 false (.bin 0 .geq v57 (AV.int .i64 1)) fun v58 => .gop v55 false (.call n_impl_CodeName [v56]) fun v59 => .gop v55 false (.bin 1 .neq v59 (AV.str ⟨#[]⟩)) fun v60 => q_laws_FnDeeds_2 v55 v58 v22 v60 v12 v13))
abbrev q_laws_FnDeeds_4 (x0 : AV) (v3 : AV) (v8 : AV) (v9 : AV) (v13 : AV) (v12 : AV) (v17 : AV) (v18 : AV) : Prog := .op (.call n_laws_at [x0, AV.int .i64 2]) fun v21 => .op (.bin 0 .rem v21 (AV.int .i64 8)) fun v22 => .op (.ldn 20 v3) fun v23 => .op (.ldn 20 v3) fun v24 => .op (.call n_impl_DeedOk [v23]) fun v25 => .chk (.ldn 20 v3) v24 (.op (.call n_spec_DeedOk [v24]) fun v26 => .op (.bin 2 .neq v25 v26) fun v27 => .gop v27 false (.ldn 20 v8) fun v28 => .gop v27 false (.ldn 20 v9) fun v29 => .gop v27 false (.ldn 20 v8) fun v30 => .gop v27 false (.ldn 20 v9) fun v31 => .gop v27 false (.call n_impl_SameDeed [v28, v29]) fun v32 => .gchk v27 false (.ldn 20 v8) v30 (.gchk v27 false (.ldn 20 v9) v31 (.gop v27 false (.call n_spec_SameDeed [v30, v31]) fun v33 => .gop v27 false (.bin 2 .neq v32 v33) fun v34 => .op (.pick v27 (AV.bool true) v34) fun v35 => .gop v35 false (.mv v13) fun v36 => .gop v35 false (.mv v12) fun v37 => .gop v35 false (.call n_spec_Order [v37]) fun v38 => .gop v35 false (.call n_laws_sameInts [v36, v38]) fun v39 => .gop v35 false (.una .not v39) fun v40 => q_laws_FnDeeds_3 v35 v40 v17 v18 v22 v12 v13)))
def p_laws_FnDeeds (x0 : AV) : Prog := .op (.call n_laws_big [x0]) fun v1 => .ite v1 (.fin [.val (AV.bool true)]) (.op (.call n_spec_DrawDeedOk [x0]) fun v2 => .op (.alloc z20_1ff) fun v3 => .op (.st 20 v3 v2) fun v4 => .op (.call n_spec_DrawSameDeed [x0]) fun v5 => .op (.ext v5 0) fun v6 => .op (.ext v5 1) fun v7 => .op (.alloc z20_1ff) fun v8 => .op (.alloc z20_1ff) fun v9 => .op (.st 20 v8 v6) fun v10 => .op (.st 20 v9 v7) fun v11 => .op (.call n_spec_DrawOrder [x0]) fun v12 => .op (.call n_impl_Order [v12]) fun v13 => .op (.call n_spec_DrawAhead [x0]) fun v14 => .op (.ext v14 0) fun v15 => .op (.ext v14 1) fun v16 => .op (.alloc z20_1ff) fun v17 => .op (.alloc z20_1ff) fun v18 => .op (.st 20 v17 v15) fun v19 => .op (.st 20 v18 v16) fun v20 => q_laws_FnDeeds_4 x0 v3 v8 v9 v13 v12 v17 v18)
theorem c_laws_FnDeeds (x0 : AV) : CC Try.prog n_laws_FnDeeds [x0] (p_laws_FnDeeds x0) := cc Try.func7 [6, 7, 11, 12, 13] (fun r => if r = 9 then [(0, []), (2, []), (1, [2]), (3, []), (4, []), (5, []), (6, []), (7, []), (9, []), (10, []), (8, [9, 10]), (11, []), (12, []), (13, []), (14, []), (15, []), (16, []), (17, []), (18, []), (19, []), (20, []), (21, []), (22, []), (23, []), (25, []), (26, []), (24, [25, 26]), (27, []), (28, []), (29, []), (30, []), (31, []), (33, []), (32, []), (34, []), (35, []), (36, []), (37, []), (38, []), (41, []), (42, []), (39, []), (40, []), (43, []), (44, []), (45, []), (46, []), (47, []), (48, [])] else if r = 17 then [(0, []), (1, []), (2, []), (3, []), (4, []), (5, []), (6, []), (7, []), (8, []), (9, []), (10, []), (11, []), (12, []), (13, []), (14, []), (15, [])] else if r = 22 then [(0, []), (1, []), (2, []), (3, []), (4, []), (5, []), (6, []), (7, []), (8, []), (9, []), (10, []), (11, []), (12, []), (13, []), (14, []), (15, []), (16, []), (17, [])] else []) (by kernel_rfl)
end
theorem kk {k : Int} {h : AH} {Q : Nat → List AV → AH → Prop} {R : Prog} (hR : R.awp Try.prog h Q) : (Prog.op (.bin 0 .geq (.int .i64 k) (.int .i64 1)) fun v58 => .gop (.bool false) false (.call n_impl_CodeName [.int .i64 k]) fun v59 => .gop (.bool false) false (.bin 1 .neq v59 (.str ⟨#[]⟩)) fun v60 => .gop (.bool false) false (.mv v58) fun v61 => .gop v61 true (.mv (.int .i64 k)) fun v62 => .gop v61 true (.bin 0 .leq v62 (.int .i64 5)) fun v63 => .gop (.bool false) false (.pick v61 v63 (.bool false)) fun v64 => .gop (.bool false) false (.bin 2 .neq v60 v64) fun v65 => .op (.pick (.bool false) (.bool true) v65) fun v66 => .ite v66 (.fin [.val (.bool false)]) R).awp Try.prog h Q := by
  have c1 : 1 ≤ k ∧ k ≤ 5 → codeName k ≠ ⟨#[]⟩ := codeName_ne
  have c2 : ¬ (1 ≤ k ∧ k ≤ 5) → codeName k = ⟨#[]⟩ := codeName_out
  (repeat' first|refine vs ?_|(refine br ?_ ?_<;>intro _<;>try(exfalso;first|omega|contradiction))|((with_reducible refine g_callf n_impl_CodeName ?_);refine aw_rcall s_impl_CodeName ?_)|((with_reducible refine g_idx ?_);((first|refine ix ?_|refine ixi ?_|(refine ixg ?_;intro _ _)|(refine ixgi ?_;intro _ _));first|rintro _ _ _ _ _ ⟨rfl,rfl⟩ _|rintro _ _ _ _ _ ⟨_,rfl,_⟩ _|rintro _ _ _ _ _ ⟨_,_,_,_,rfl,rfl,_,_⟩ _|intro _ _ _ _ _ _ _))|(refine sx ?_;intro _ _)|((with_reducible refine g_awp ?_);simp only [g0,g1,g2]))
  all_goals first
    | exact hR
    | (exfalso
       by_cases g : 1 ≤ k ∧ k ≤ 5
       · first | exact c1 g (by assumption) | omega
       · first | exact absurd (c2 g) (by assumption) | omega)
theorem law_FnDeeds {h : AH} {v0 : AV} {x0 : List UInt8} {F0 : List Nat} (r0 : SlRep h v0 x0 F0) (k0 : ∀ x ∈ x0, Cel.ok x) : RCalls Try.prog n_laws_FnDeeds [v0] h (.bool true) := by
  refine reader (c_laws_FnDeeds _) (by simp only [old]) ?_
  unfold p_laws_FnDeeds
  refine aw_rcall_b (s_laws_big r0) ?_ ?_ <;> intro hn <;> first | replace hn := bp_true hn | replace hn := bp_false hn
  · (repeat' first|refine vs ?_|(refine br ?_ ?_<;>intro _<;>try(exfalso;first|omega|contradiction))|((with_reducible refine g_idx ?_);((first|refine ix ?_|refine ixi ?_|(refine ixg ?_;intro _ _)|(refine ixgi ?_;intro _ _));first|rintro _ _ _ _ _ ⟨rfl,rfl⟩ _|rintro _ _ _ _ _ ⟨_,rfl,_⟩ _|rintro _ _ _ _ _ ⟨_,_,_,_,rfl,rfl,_,_⟩ _|intro _ _ _ _ _ _ _))|(refine sx ?_;intro _ _)|((with_reducible refine g_awp ?_);simp only [g0,g1,g2]))
    exact pb rfl
  have hs : x0.length ≤ 1048576 := by omega
  clear hn k0
  refine vs ?_
  refine aw_call (s_spec_DrawDeedOk hs slr_auto) ?_
  rintro _ h1 ⟨d, _, G, rfl, ⟨u, rfl, ru⟩, -, e1, hd⟩
  have n1 := e1.1
  refine vs ?_
  refine aw_call (s_spec_DrawSameDeed hs slr_auto) ?_
  rintro _ h2 ⟨a, _, Ga, b, _, Gb, rfl, ⟨ua, rfl, ra⟩, -, ⟨ub, rfl, rb⟩, -, e2, ha, hb⟩
  have n2 := e2.1
  simp only [push_n, upd_n] at n2
  refine vs ?_
  refine aw_call (s_spec_DrawOrder hs slr_auto) ?_
  rintro ul h3 ⟨l, Gl, rl, ol, e3, hll, hld⟩
  have n3 := e3.1
  simp only [push_n, upd_n] at n3
  refine aw_call (s_impl_Order (by omega) rl) ?_
  rintro uo h4 ⟨e4, Go, ro, oo⟩
  have n4 := e4.1
  refine aw_call (s_spec_DrawAhead hs slr_auto) ?_
  rintro _ h5 ⟨c, _, Gc, e, _, Ge, rfl, ⟨uc, rfl, rc⟩, -, ⟨ue, rfl, re⟩, -, e5, hc, he⟩
  have n5 := e5.1
  refine vs ?_
  refine aw_call (sa_laws_at hs slr_auto 2 (by omega) (by omega)) ?_
  rintro _ _ ⟨k, rfl, hk0, hk1, rfl⟩
  have hkk : 0 ≤ k.tmod 8 ∧ k.tmod 8 < 8 := ⟨Int.tmod_nonneg _ hk0, Int.tmod_lt_of_pos _ (by omega)⟩
  (repeat' first|refine vs0 ?_|((with_reducible refine g_callf n_impl_DeedOk ?_);refine aw_rcall s_impl_DeedOk ?_)|((with_reducible refine g_callf n_spec_DeedOk ?_);refine aw_rcall s_spec_DeedOk ?_)|((with_reducible refine g_callf n_impl_SameDeed ?_);refine aw_rcall (s_impl_SameDeed slr_auto slr_auto) ?_)|((with_reducible refine g_callf n_spec_SameDeed ?_);refine aw_rcall (s_spec_SameDeed slr_auto slr_auto) ?_)|((with_reducible refine g_callf n_spec_Order ?_);(refine aw_call (s_spec_Order (l := l) (by omega) slr_auto) ?_; rintro up h6 ⟨e6, Gp, rp, op⟩; have n6 := e6.1))|((with_reducible refine g_callf n_laws_sameInts ?_);(refine aw_rcall (s_laws_sameInts _ _ _ _ _ _ slr_auto slr_auto) ?_))|((with_reducible refine g_callf n_impl_Ahead ?_);refine aw_rcall s_impl_Ahead ?_)|((with_reducible refine g_callf n_spec_Ahead ?_);refine aw_rcall s_spec_Ahead ?_)|((with_reducible refine g_callf n_impl_CodeName ?_);refine aw_rcall s_impl_CodeName ?_)|((with_reducible refine g_callf n_spec_CodeName ?_);refine aw_rcall s_spec_CodeName ?_)|((with_reducible refine g_idx ?_);((first|refine ix ?_|refine ixi ?_|(refine ixg ?_;intro _ _)|(refine ixgi ?_;intro _ _));first|rintro _ _ _ _ _ ⟨rfl,rfl⟩ _|rintro _ _ _ _ _ ⟨_,rfl,_⟩ _|rintro _ _ _ _ _ ⟨_,_,_,_,rfl,rfl,_,_⟩ _|intro _ _ _ _ _ _ _))|(refine sx ?_;intro _ _)|((with_reducible refine g_awp ?_);simp only [g0,g1,g2]))
  have rl6 : SlRep h6 ul l Gl := slr_auto
  have ro6 : SlRep h6 uo (orderL l) Go := slr_auto
  have eh : Ext h h6 := ext_auto
  refine kk ?_
  refine aw_upto l.length (fun i vs h' => vs = [.int .i64 ((ords l i).length : Int), .int .i64 (i : Int)] ∧ i ≤ l.length ∧ h' = h6) ⟨rfl, Nat.zero_le _, rfl⟩ ?_
  rintro i vs h' _ ⟨rfl, hi, rfl⟩
  simp only [g0, g1]
  refine aw_len rl6 ?_
  refine br (fun q => ?_) (fun q => ?_)
  · obtain ⟨z, hz, -, -⟩ := drop_step (show i < l.length by omega)
    have hos := ords_s hz
    have hol : (ords l i).length ≤ i := by
      unfold ords
      rw [List.length_map]
      have := List.length_filter_le (fun j => decide (linAt l j ≠ -1)) (List.range i)
      simpa using this
    (repeat' first|refine vs ?_|(refine br ?_ ?_<;>intro _<;>try(exfalso;first|omega|contradiction))|((with_reducible refine g_callf n_impl_DeedOk ?_);(refine aw_rcall_b (s_impl_DeedOk) ?_ ?_ <;> intro hn <;> first | replace hn := bp_true hn | replace hn := bp_false hn))|((with_reducible refine g_callf n_impl_Ahead ?_);(refine aw_rcall_b (s_impl_Ahead) ?_ ?_ <;> intro hn <;> first | replace hn := bp_true hn | replace hn := bp_false hn))|((with_reducible refine g_idx ?_);((first|refine ix ?_|refine ixi ?_|(refine ixg ?_;intro _ _)|(refine ixgi ?_;intro _ _));first|rintro _ _ _ _ _ ⟨rfl,rfl⟩ _|rintro _ _ _ _ _ ⟨_,rfl,_⟩ _|rintro _ _ _ _ _ ⟨_,_,_,_,rfl,rfl,_,_⟩ _|intro _ _ _ _ _ _ _))|(refine sx ?_;intro _ _)|((with_reducible refine g_awp ?_);simp only [g0,g1,g2]))
    all_goals first
      | (exfalso; have hdo : deedOk z := (by assumption); unfold deedOk at hdo; omega)
      | (rw [if_neg (by assumption)] at hos; exact ⟨by omega, by rw [hos, List.length_append]; rfl, by omega, rfl⟩)
      | (rw [if_pos (by omega)] at hos; exact ⟨by omega, by rw [hos]; rfl, by omega, rfl⟩)
  · have el : i = l.length := by omega
    subst el
    refine vs ?_
    refine aw_loop (fun m vs h4 => ∃ i : Nat, vs = [.int .i64 (i : Int)] ∧ m + i = (orderL l).length + 1 ∧ 1 ≤ i ∧ h4 = h') (orderL l).length ⟨1, rfl, rfl, Nat.le_refl _, rfl⟩ ?_
    rintro m vs h4 ⟨i, rfl, hm, hi1, rfl⟩
    have hsm := ro6.small
    simp only [g0]
    refine aw_len ro6 ?_
    refine br (fun q => ?_) (fun q => ?_)
    · obtain ⟨y1, hy1, -, -⟩ := drop_step (show ((i : Int) - 1).toNat < (orderL l).length by omega)
      obtain ⟨y2, hy2, -, -⟩ := drop_step (show i < (orderL l).length by omega)
      have o1 := ords_in (Nat.le_refl _) y1 (ssort_mem.1 (List.mem_of_getElem? hy1))
      have o2 := ords_in (Nat.le_refl _) y2 (ssort_mem.1 (List.mem_of_getElem? hy2))
      have hle := (ssort_srt (key := okey l) (xs := ords l l.length)).at_ (show ((i : Int) - 1).toNat ≤ i by omega) hy1 hy2
      obtain ⟨o11, o12⟩ := o1
      obtain ⟨o21, o22⟩ := o2
      obtain ⟨d1, hd1, -, -⟩ := drop_step o12
      obtain ⟨d2, hd2, -, -⟩ := drop_step o22
      unfold okey at hle
      rw [linAt_eq hd1, linAt_eq hd2] at hle
      (repeat' first|refine vs ?_|(refine br ?_ ?_<;>intro _<;>try(exfalso;first|omega|contradiction))|((with_reducible refine g_idx ?_);((first|refine ix ?_|refine ixi ?_|(refine ixg ?_;intro _ _)|(refine ixgi ?_;intro _ _));first|rintro _ _ _ _ _ ⟨rfl,rfl⟩ _|rintro _ _ _ _ _ ⟨_,rfl,_⟩ _|rintro _ _ _ _ _ ⟨_,_,_,_,rfl,rfl,_,_⟩ _|intro _ _ _ _ _ _ _))|(refine sx ?_;intro _ _)|((with_reducible refine g_awp ?_);simp only [g0,g1,g2]))
      exact ⟨m - 1, by omega, i + 1, rfl, by omega, by omega, rfl⟩
    · have hlen : (orderL l).length = (ords l l.length).length := ssort_len
      (repeat' first|refine vs ?_|(refine br ?_ ?_<;>intro _<;>try(exfalso;first|omega|contradiction))|((with_reducible refine g_idx ?_);((first|refine ix ?_|refine ixi ?_|(refine ixg ?_;intro _ _)|(refine ixgi ?_;intro _ _));first|rintro _ _ _ _ _ ⟨rfl,rfl⟩ _|rintro _ _ _ _ _ ⟨_,rfl,_⟩ _|rintro _ _ _ _ _ ⟨_,_,_,_,rfl,rfl,_,_⟩ _|intro _ _ _ _ _ _ _))|(refine sx ?_;intro _ _)|((with_reducible refine g_awp ?_);simp only [g0,g1,g2]))
      exact pb rfl
end Go.Proofs.Ytpcgbddmdipfbaa
