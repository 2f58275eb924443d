/- The law FnTrails, walked. -/
import Derived.Test.YtpcgbddmdipfbaaW58
import Derived.Test.YtpcgbddmdipfbaaW56
set_option linter.unusedSimpArgs false
set_option linter.unusedVariables false
set_option maxHeartbeats 4000000
namespace Go.Proofs.Ytpcgbddmdipfbaa
open Go Go.Ab
section
/- laws.FnTrails -/
abbrev q_laws_FnTrails_1 (v117 : AV) (v120 : AV) (v6 : AV) (v10 : AV) (v82 : AV) : Prog := .gop v117 true (.fad 2 v120) fun v121 => .gop v117 true (.ld1 v121) fun v122 => .gop v117 true (.mv v6) fun v123 => .gop v117 true (.bin 0 .eql v122 v123) fun v124 => .op (.pick v117 v124 (AV.bool false)) fun v125 => .gop v125 true (.mv v10) fun v126 => .gop v125 true (.mv v82) fun v127 => .gop v125 true (.idx 4 v126 v127) fun v128 => .gop v125 true (.fad 3 v128) fun v129 => .gop v125 true (.ld1 v129) fun v130 => .gop v125 true (.len 0 v130) fun v131 => .gop v125 true (.bin 0 .eql v131 (AV.int .i64 1)) fun v132 => .op (.pick v125 v132 (AV.bool false)) fun v133 => .fin [.val v133]
abbrev q_laws_FnTrails_2 (v140 : AV) (v148 : AV) (v145 : AV) (v10 : AV) (v82 : AV) (v3 : AV) (v85 : AV) (v7 : AV) : Prog := .gop v140 true (.fad 1 v148) fun v149 => .gop v140 true (.ld1 v149) fun v150 => .gop v140 true (.bin 0 .eql v145 v150) fun v151 => .op (.pick v140 v151 (AV.bool false)) fun v152 => .gop v152 true (.mv v10) fun v153 => .gop v152 true (.mv v82) fun v154 => .gop v152 true (.idx 4 v153 v154) fun v155 => .gop v152 true (.ldn 4 v155) fun v156 => .gop v152 true (.mv v3) fun v157 => .gop v152 true (.mv v85) fun v158 => .gop v152 true (.idx 4 v157 v158) fun v159 => .gop v152 true (.ldn 4 v159) fun v160 => .gop v152 true (.ldn 6 v7) fun v161 => .gop v152 true (.call n_impl_BytesOf [v156]) fun v162 => .gchk v152 true (.ldn 4 v159) v160 (.gchk v152 true (.ldn 6 v7) v161 (.gop v152 true (.call n_impl_BytesOf [v160]) fun v163 => .gchk v152 true (.ldn 6 v7) v161 (.gop v152 true (.call n_impl_SizeOf [v161]) fun v164 => .gop v152 true (.bin 0 .add v163 v164) fun v165 => .gop v152 true (.bin 0 .eql v162 v165) fun v166 => .op (.pick v152 v166 (AV.bool false)) fun v167 => .fin [.val v167])))
abbrev q_laws_FnTrails_3 (v86 : AV) (v7 : AV) (v100 : AV) (v85 : AV) (v10 : AV) (v3 : AV) (v82 : AV) (v5 : AV) (v6 : AV) : Prog := .gop v86 false (.ldn 6 v7) fun v101 => .gop v86 false (.call n_impl_SameSpan [v100, v101]) fun v102 => .gop v86 false (.una .not v102) fun v103 => .op (.pick v86 (AV.bool true) v103) fun v104 => .ite v104 (.fin [.val (AV.bool false)]) (.op (.bin 0 .lss v85 (AV.int .i64 0)) fun v105 => .ite v105 (.op (.len 0 v10) fun v106 => .op (.len 0 v3) fun v107 => .op (.bin 0 .add v107 (AV.int .i64 1)) fun v108 => .op (.bin 0 .eql v106 v108) fun v109 => .gop v109 true (.mv v10) fun v110 => .gop v109 true (.mv v82) fun v111 => .gop v109 true (.idx 4 v110 v111) fun v112 => .gop v109 true (.fad 1 v112) fun v113 => .gop v109 true (.ld1 v113) fun v114 => .gop v109 true (.mv v5) fun v115 => .gop v109 true (.bin 0 .eql v114 v115) fun v116 => .op (.pick v109 v116 (AV.bool false)) fun v117 => .gop v117 true (.mv v10) fun v118 => .gop v117 true (.mv v82) fun v119 => .gop v117 true (.idx 4 v118 v119) fun v120 => q_laws_FnTrails_1 v117 v120 v6 v10 v82) (.op (.len 0 v10) fun v134 => .op (.len 0 v3) fun v135 => .op (.bin 0 .eql v134 v135) fun v136 => .gop v136 true (.mv v85) fun v137 => .gop v136 true (.mv v82) fun v138 => .gop v136 true (.bin 0 .eql v137 v138) fun v139 => .op (.pick v136 v139 (AV.bool false)) fun v140 => .gop v140 true (.mv v10) fun v141 => .gop v140 true (.mv v82) fun v142 => .gop v140 true (.idx 4 v141 v142) fun v143 => .gop v140 true (.fad 1 v143) fun v144 => .gop v140 true (.ld1 v144) fun v145 => .gop v140 true (.mv v3) fun v146 => .gop v140 true (.mv v85) fun v147 => .gop v140 true (.idx 4 v146 v147) fun v148 => q_laws_FnTrails_2 v140 v148 v145 v10 v82 v3 v85 v7))
abbrev q_laws_FnTrails_4 (v80 : AV) (v10 : AV) (v7 : AV) (v3 : AV) (v5 : AV) (v6 : AV) : Prog := .op (.ld1 v80) fun v81 => .op (.call n_impl_TrailAt [v10, v81]) fun v82 => .op (.fad 0 v7) fun v83 => .op (.ld1 v83) fun v84 => .op (.call n_impl_TrailAt [v3, v84]) fun v85 => .op (.bin 0 .lss v82 (AV.int .i64 0)) fun v86 => .gop v86 false (.mv v10) fun v87 => .gop v86 false (.mv v82) fun v88 => .gop v86 false (.idx 4 v87 v88) fun v89 => .gop v86 false (.fad 3 v89) fun v90 => .gop v86 false (.ld1 v90) fun v91 => .gop v86 false (.mv v10) fun v92 => .gop v86 false (.mv v82) fun v93 => .gop v86 false (.idx 4 v92 v93) fun v94 => .gop v86 false (.fad 3 v94) fun v95 => .gop v86 false (.ld1 v95) fun v96 => .gop v86 false (.len 0 v96) fun v97 => .gop v86 false (.bin 0 .sub v97 (AV.int .i64 1)) fun v98 => .gop v86 false (.idx 6 v91 v98) fun v99 => .gop v86 false (.ldn 6 v99) fun v100 => q_laws_FnTrails_3 v86 v7 v100 v85 v10 v3 v82 v5 v6
abbrev q_laws_FnTrails_5 (v56 : AV) (v57 : AV) (v58 : AV) (v59 : AV) (v60 : AV) (v12 : AV) (v24 : AV) (v25 : AV) (v7 : AV) (v10 : AV) (v3 : AV) (v5 : AV) (v6 : AV) : Prog := .gop v56 false (.call n_impl_TrailAt [v57, v58]) fun v61 => .gop v56 false (.call n_spec_TrailAt [v59, v60]) fun v62 => .gop v56 false (.bin 0 .neq v61 v62) fun v63 => .op (.pick v56 (AV.bool true) v63) fun v64 => .gop v64 false (.ldn 4 v12) fun v65 => .gop v64 false (.ldn 4 v12) fun v66 => .gop v64 false (.call n_impl_BytesOf [v65]) fun v67 => .gchk v64 false (.ldn 4 v12) v66 (.gop v64 false (.call n_spec_BytesOf [v66]) fun v68 => .gop v64 false (.bin 0 .neq v67 v68) fun v69 => .op (.pick v64 (AV.bool true) v69) fun v70 => .gop v70 false (.ldn 4 v24) fun v71 => .gop v70 false (.ldn 4 v25) fun v72 => .gop v70 false (.call n_impl_Older [v71, v72]) fun v73 => .gop v70 false (.mv v73) fun v74 => .gop v74 true (.ldn 4 v25) fun v75 => .gop v74 true (.ldn 4 v24) fun v76 => .gop v74 true (.call n_impl_Older [v75, v76]) fun v77 => .gop v70 false (.pick v74 v77 (AV.bool false)) fun v78 => .op (.pick v70 (AV.bool true) v78) fun v79 => .ite v79 (.fin [.val (AV.bool false)]) (.op (.fad 0 v7) fun v80 => q_laws_FnTrails_4 v80 v10 v7 v3 v5 v6))
abbrev q_laws_FnTrails_6 (v40 : AV) (v17 : AV) (v18 : AV) (v24 : AV) (v25 : AV) (v29 : AV) (v30 : AV) (v12 : AV) (v7 : AV) (v10 : AV) (v3 : AV) (v5 : AV) (v6 : AV) : Prog := .gop v40 false (.ldn 4 v17) fun v41 => .gop v40 false (.ldn 4 v18) fun v42 => .gop v40 false (.ldn 4 v17) fun v43 => .gop v40 false (.ldn 4 v18) fun v44 => .gop v40 false (.call n_impl_SameTrail [v41, v42]) fun v45 => .gchk v40 false (.ldn 4 v17) v43 (.gchk v40 false (.ldn 4 v18) v44 (.gop v40 false (.call n_spec_SameTrail [v43, v44]) fun v46 => .gop v40 false (.bin 2 .neq v45 v46) fun v47 => .op (.pick v40 (AV.bool true) v47) fun v48 => .gop v48 false (.ldn 4 v24) fun v49 => .gop v48 false (.ldn 4 v25) fun v50 => .gop v48 false (.ldn 4 v24) fun v51 => .gop v48 false (.ldn 4 v25) fun v52 => .gop v48 false (.call n_impl_Older [v49, v50]) fun v53 => .gchk v48 false (.ldn 4 v24) v51 (.gchk v48 false (.ldn 4 v25) v52 (.gop v48 false (.call n_spec_Older [v51, v52]) fun v54 => .gop v48 false (.bin 2 .neq v53 v54) fun v55 => .op (.pick v48 (AV.bool true) v55) fun v56 => .gop v56 false (.mv v29) fun v57 => .gop v56 false (.mv v30) fun v58 => .gop v56 false (.mv v29) fun v59 => .gop v56 false (.mv v30) fun v60 => q_laws_FnTrails_5 v56 v57 v58 v59 v60 v12 v24 v25 v7 v10 v3 v5 v6))))
abbrev q_laws_FnTrails_7 (x0 : AV) (v7 : AV) (v3 : AV) (v5 : AV) (v6 : AV) (v10 : AV) (v12 : AV) (v17 : AV) (v18 : AV) : Prog := .op (.call n_spec_DrawOlder [x0]) fun v21 => .op (.ext v21 0) fun v22 => .op (.ext v21 1) fun v23 => .op (.alloc [AV.int .i64 0, AV.int .i64 0, AV.int .i64 0, AV.nils]) fun v24 => .op (.alloc [AV.int .i64 0, AV.int .i64 0, AV.int .i64 0, AV.nils]) fun v25 => .op (.st 4 v24 v22) fun v26 => .op (.st 4 v25 v23) fun v27 => .op (.call n_spec_DrawTrailAt [x0]) fun v28 => .op (.ext v28 0) fun v29 => .op (.ext v28 1) fun v30 => .op (.ldn 6 v7) fun v31 => .op (.call n_spec_AddTo [v3, v31, v5, v6]) fun v32 => .op (.call n_laws_sameTrails [v10, v32]) fun v33 => .op (.una .not v33) fun v34 => .gop v34 false (.ldn 4 v12) fun v35 => .gop v34 false (.ldn 4 v12) fun v36 => .gop v34 false (.call n_impl_TrailOk [v35]) fun v37 => .gchk v34 false (.ldn 4 v12) v36 (.gop v34 false (.call n_spec_TrailOk [v36]) fun v38 => .gop v34 false (.bin 2 .neq v37 v38) fun v39 => .op (.pick v34 (AV.bool true) v39) fun v40 => q_laws_FnTrails_6 v40 v17 v18 v24 v25 v29 v30 v12 v7 v10 v3 v5 v6)
def p_laws_FnTrails (x0 : AV) : Prog := .op (.call n_laws_big [x0]) fun v1 => .ite v1 (.fin [.val (AV.bool true)]) (.op (.call n_spec_DrawAddTo [x0]) fun v2 => .op (.ext v2 0) fun v3 => .op (.ext v2 1) fun v4 => .op (.ext v2 2) fun v5 => .op (.ext v2 3) fun v6 => .op (.alloc z6_822) fun v7 => .op (.st 6 v7 v4) fun v8 => .op (.ldn 6 v7) fun v9 => .op (.call n_impl_AddTo [v3, v9, v5, v6]) fun v10 => .op (.call n_spec_DrawTrailOk [x0]) fun v11 => .op (.alloc [AV.int .i64 0, AV.int .i64 0, AV.int .i64 0, AV.nils]) fun v12 => .op (.st 4 v12 v11) fun v13 => .op (.call n_spec_DrawSameTrail [x0]) fun v14 => .op (.ext v14 0) fun v15 => .op (.ext v14 1) fun v16 => .op (.alloc [AV.int .i64 0, AV.int .i64 0, AV.int .i64 0, AV.nils]) fun v17 => .op (.alloc [AV.int .i64 0, AV.int .i64 0, AV.int .i64 0, AV.nils]) fun v18 => .op (.st 4 v17 v15) fun v19 => .op (.st 4 v18 v16) fun v20 => q_laws_FnTrails_7 x0 v7 v3 v5 v6 v10 v12 v17 v18)
theorem c_laws_FnTrails (x0 : AV) : CC Try.prog n_laws_FnTrails [x0] (p_laws_FnTrails x0) := cc Try.func9 [] (fun r => if r = 9 then [(0, []), (1, []), (2, []), (3, []), (4, []), (5, []), (6, []), (7, []), (8, []), (9, []), (11, []), (10, [11]), (12, []), (13, []), (14, []), (15, []), (16, []), (17, []), (19, []), (20, []), (18, [19, 20]), (21, []), (22, []), (23, []), (24, []), (25, []), (26, []), (28, []), (29, []), (27, [28, 29]), (30, []), (31, []), (32, []), (33, []), (34, []), (35, []), (37, []), (38, []), (36, []), (39, []), (40, []), (41, []), (42, []), (43, []), (45, []), (44, [45]), (46, []), (47, []), (48, []), (49, []), (50, []), (51, []), (52, []), (53, []), (54, []), (55, []), (56, []), (57, []), (58, [])] else if r = 13 then [(0, []), (1, []), (2, []), (3, []), (4, []), (5, []), (6, []), (7, []), (8, []), (9, []), (10, []), (11, []), (12, []), (13, []), (14, []), (15, []), (16, []), (17, []), (18, []), (19, []), (20, [])] else if r = 17 then [(0, []), (1, []), (2, []), (3, []), (4, []), (5, []), (6, []), (7, []), (8, []), (9, []), (10, []), (11, []), (12, []), (13, []), (14, []), (15, []), (16, []), (17, []), (18, []), (19, []), (20, []), (21, []), (22, []), (23, []), (24, []), (25, []), (26, []), (27, []), (29, []), (30, []), (31, []), (32, []), (34, []), (28, [32, 34]), (33, [34]), (35, []), (36, []), (37, []), (38, []), (39, [])] else []) (by kernel_rfl)
end
theorem not_older {a b : Trail} (h : older a b) : ¬ older b a := by
  unfold older at h ⊢
  omega
/-- What is added is there. -/
theorem addTo_at (l : List Trail) (s : Span) (st nw : Int) : ∃ (k : Nat) (t : Trail), idx (isId s.trace) (addTo l s st nw) = (k : Int) ∧ (addTo l s st nw)[k]? = some t ∧ t.spans[t.spans.length - 1]? = some s ∧ 0 < t.spans.length ∧
    ((idx (isId s.trace) l < 0 ∧ (addTo l s st nw).length = l.length + 1 ∧ t.stamp = st ∧ t.first = nw ∧ t.spans.length = 1) ∨
     (idx (isId s.trace) l = (k : Int) ∧ (addTo l s st nw).length = l.length ∧ ∃ u, l[k]? = some u ∧ t = { u with spans := u.spans ++ [s] })) := by
  by_cases h : idx (isId s.trace) l < 0
  · rw [addTo_no h]
    have hgb := gt_b s.trace l
    obtain ⟨p, hp⟩ : ∃ p, p = l.findIdx (gtT s.trace) := ⟨_, rfl⟩
    rw [← hp] at hgb ⊢
    have hl : (l.take p).length = p := by rw [List.length_take]; omega
    have hat : (l.take p ++ ⟨s.trace, st, nw, [s]⟩ :: l.drop p)[p]? = some (⟨s.trace, st, nw, [s]⟩ : Trail) := by
      rw [List.getElem?_append_right (by omega), hl, Nat.sub_self]; rfl
    refine ⟨p, ⟨s.trace, st, nw, [s]⟩, idx_at hat (by simp [isId]) fun j y hj hy => ?_, hat, rfl, by simp, .inl ⟨h, ?_, rfl, rfl, rfl⟩⟩
    · rw [List.getElem?_append_left (by omega), List.getElem?_take_of_lt hj] at hy
      · have hnone : ∀ y ∈ l, isId s.trace y = false := by
          unfold idx at h
          split at h
          · omega
          · have : l.findIdx (isId s.trace) = l.length := by have := List.findIdx_le_length (xs := l) (p := isId s.trace); omega
            rwa [List.findIdx_eq_length] at this
        exact hnone y (List.mem_of_getElem? hy)
    · simp only [List.length_append, List.length_cons, List.length_take, List.length_drop]; omega
  · have hib := idx_b (isId s.trace) l
    obtain ⟨i, hi⟩ : ∃ i : Nat, idx (isId s.trace) l = i := ⟨(idx (isId s.trace) l).toNat, by omega⟩
    obtain ⟨t, ht, -, -⟩ := drop_step (show i < l.length by omega)
    have hil : i < l.length := (List.getElem?_eq_some_iff.1 ht).1
    rw [addTo_yes hi ht]
    have hat : (l.set i { t with spans := t.spans ++ [s] })[i]? = some { t with spans := t.spans ++ [s] } := by simp [hil]
    have hfi : l.findIdx (isId s.trace) = i := by
      unfold idx at hi
      split at hi
      · exact_mod_cast hi
      · omega
    have htid : isId s.trace t = true := by
      have := List.findIdx_getElem (xs := l) (p := isId s.trace) (w := by omega)
      simp only [hfi] at this
      obtain ⟨_, rfl⟩ := List.getElem?_eq_some_iff.1 ht
      exact this
    refine ⟨i, { t with spans := t.spans ++ [s] }, idx_at hat htid fun j y hj hy => ?_, hat, by simp, by simp, .inr ⟨hi, by simp, t, ht, rfl⟩⟩
    rw [List.getElem?_set] at hy
    split at hy
    · omega
    · obtain ⟨hj', rfl⟩ := List.getElem?_eq_some_iff.1 hy
      exact List.not_of_lt_findIdx (by omega)
theorem law_FnTrails {h : AH} {v0 : AV} {x0 : List UInt8} {F0 : List Nat} (r0 : SlRep h v0 x0 F0) (k0 : ∀ x ∈ x0, Cel.ok x) : RCalls Try.prog n_laws_FnTrails [v0] h (.bool true) := by
  refine reader (c_laws_FnTrails _) (by simp only [old]) ?_
  unfold p_laws_FnTrails
  refine aw_rcall_b (s_laws_big r0) ?_ ?_ <;> intro hn <;> first | replace hn := bp_true hn | replace hn := bp_false hn
  · (repeat' first|refine vs ?_|(refine br ?_ ?_<;>intro _<;>try(exfalso;first|omega|contradiction))|((with_reducible refine g_idx ?_);((first|refine ix ?_|refine ixi ?_|(refine ixg ?_;intro _ _)|(refine ixgi ?_;intro _ _));first|rintro _ _ _ _ _ ⟨rfl,rfl⟩ _|rintro _ _ _ _ _ ⟨_,rfl,_⟩ _|rintro _ _ _ _ _ ⟨_,_,_,_,rfl,rfl,_,_⟩ _|intro _ _ _ _ _ _ _))|(refine sx ?_;intro _ _)|((with_reducible refine g_awp ?_);simp only [g0,g1,g2]))
    exact pb rfl
  have hs : x0.length ≤ 1048576 := by omega
  clear hn k0
  refine vs ?_
  refine aw_call (s_spec_DrawAddTo hs slr_auto) ?_
  rintro _ h1 ⟨w, l, Gl, s, vS, Gs, st, nw, rfl, rl, ol, rs, os, e1, ⟨hll, hla⟩, hsA, hst, hnw⟩
  have n1 := e1.1
  have hls := szs_le (m := 6000) fun t ht => trA_sz (hla t ht)
  have hss := sA_sz hsA
  have hasz := addTo_sz l s st nw
  refine vs ?_
  obtain ⟨M, hM⟩ : ∃ M, M = addTo l s st nw := ⟨_, rfl⟩
  obtain ⟨k, t', hk, hkt, hlast, hpos, hcase⟩ := addTo_at l s st nw
  refine aw_call (s_impl_AddTo (l := l) (s := s) (by omega) (by omega) slr_auto slr_auto) ?_
  rw [← hM] at hk hkt hcase hasz
  rintro wm h2 ⟨e2, Gm, rm, om⟩
  rw [← hM] at rm
  have n2 := e2.1
  simp only [push_n, upd_n] at n2
  refine aw_call (s_spec_DrawTrailOk hs slr_auto) ?_
  rintro _ h3 ⟨t, _, Gt, rfl, ⟨vt, rfl, rt⟩, -, e3, ht⟩
  have n3 := e3.1
  refine vs ?_
  refine aw_call (s_spec_DrawSameTrail hs slr_auto) ?_
  rintro _ h4 ⟨a, _, Ga, b, _, Gb, rfl, ⟨va, rfl, ra⟩, -, ⟨vb, rfl, rb⟩, -, e4, ha, hb⟩
  have n4 := e4.1
  simp only [push_n, upd_n] at n4
  refine vs ?_
  refine aw_call (s_spec_DrawOlder hs slr_auto) ?_
  rintro _ h5 ⟨c, _, Gc, d, _, Gd, rfl, ⟨vc, rfl, rc⟩, -, ⟨vd, rfl, rd⟩, -, e5, hc, hd⟩
  have n5 := e5.1
  simp only [push_n, upd_n] at n5
  refine vs ?_
  refine aw_call (s_spec_DrawTrailAt hs slr_auto) ?_
  rintro _ h6 ⟨we, e, Ge, z, rfl, re, -, e6, ⟨hel, hea⟩, hz0, hz1⟩
  have n6 := e6.1
  simp only [push_n, upd_n] at n6
  have htsz := trA_sz ht
  have hno : older c d → ¬ older d c := not_older
  refine vs ?_
  have ol6 : Own h.n h6 Gl := ol_auto
  refine aw_call (s_spec_AddTo (l := l) (s := s) (n := h.n) (by omega) (by omega) slr_auto ol6 slr_auto) ?_
  rintro wp h7 ⟨e7, Gp, rp, op⟩
  rw [← hM] at rp
  have n7 := e7.1
  refine aw_rcall (s_laws_sameTrails M _ _ _ _ _ slr_auto slr_auto) ?_
  (repeat' first|refine vs0 ?_|((with_reducible refine g_callf n_impl_TrailOk ?_);refine aw_rcall (s_impl_TrailOk (t := t) (fun x hx => sA_ok (ht.2.2.2.2 x hx)) (by omega) slr_auto) ?_)|((with_reducible refine g_callf n_spec_TrailOk ?_);refine aw_rcall (s_spec_TrailOk (t := t) (fun x hx => sA_ok (ht.2.2.2.2 x hx)) (by omega) slr_auto) ?_)|((with_reducible refine g_callf n_impl_SameTrail ?_);refine aw_rcall (s_impl_SameTrail slr_auto slr_auto) ?_)|((with_reducible refine g_callf n_spec_SameTrail ?_);refine aw_rcall (s_spec_SameTrail slr_auto slr_auto) ?_)|((with_reducible refine g_callf n_spec_Older ?_);refine aw_rcall s_spec_Older ?_)|((with_reducible refine g_callf n_impl_TrailAt ?_);refine aw_rcall (s_impl_TrailAt slr_auto) ?_)|((with_reducible refine g_callf n_spec_TrailAt ?_);refine aw_rcall (s_spec_TrailAt slr_auto) ?_)|((with_reducible refine g_callf n_impl_BytesOf ?_);refine aw_rcall (s_impl_BytesOf (by omega) slr_auto) ?_)|((with_reducible refine g_callf n_spec_BytesOf ?_);refine aw_rcall (s_spec_BytesOf (by omega) slr_auto) ?_)|((with_reducible refine g_idx ?_);((first|refine ix ?_|refine ixi ?_|(refine ixg ?_;intro _ _)|(refine ixgi ?_;intro _ _));first|rintro _ _ _ _ _ ⟨rfl,rfl⟩ _|rintro _ _ _ _ _ ⟨_,rfl,_⟩ _|rintro _ _ _ _ _ ⟨_,_,_,_,rfl,rfl,_,_⟩ _|intro _ _ _ _ _ _ _))|(refine sx ?_;intro _ _)|((with_reducible refine g_awp ?_);simp only [g0,g1,g2]))
  have s_impl_SameSpan : ∀ {h : AH} {a b : AV} {A B : List Nat}, SlRep h a s.attrs A → SlRep h b s.attrs B → RCalls Try.prog n_impl_SameSpan [.agg (s.cs a), .agg (s.cs b)] h (.bool true) := fun p q => by
    have := Go.Proofs.Ytpcgbddmdipfbaa.s_impl_SameSpan (a := s) (b := s) p q; rw [bp_t rfl] at this; exact this
  have hlast2 : t'.spans[((t'.spans.length : Int) - 1).toNat]? = some s := by
    rw [show ((t'.spans.length : Int) - 1).toNat = t'.spans.length - 1 by omega]; exact hlast
  have hMl := (List.getElem?_eq_some_iff.1 hkt).1
  rcases hcase with ⟨c1, c2, c3, c4, c5⟩ | ⟨c1, c2, u, hu, rfl⟩
  · by_cases ho : older c d
    · have e1 := bp_t ho
      have e2 := bp_f (hno ho)
      (repeat' first|refine vs ?_|(refine br ?_ ?_<;>intro _<;>try(exfalso;first|omega|contradiction))|((with_reducible refine g_callf n_impl_Older ?_);(refine aw_rcall (s_impl_Older (a := c) (b := d)) ?_; rw [e1]))|((with_reducible refine g_callf n_spec_Older ?_);(refine aw_rcall (s_spec_Older (a := c) (b := d)) ?_; rw [e1]))|((with_reducible refine g_callf n_impl_Older ?_);(refine aw_rcall (s_impl_Older (a := d) (b := c)) ?_; rw [e2]))|((with_reducible refine g_callf n_impl_TrailAt ?_);(refine aw_rcall (s_impl_TrailAt (xs := M) slr_auto) ?_; rw [hk]))|((with_reducible refine g_callf n_impl_TrailAt ?_);refine aw_rcall (s_impl_TrailAt slr_auto) ?_)|((with_reducible refine g_callf n_spec_TrailAt ?_);refine aw_rcall (s_spec_TrailAt slr_auto) ?_)|((with_reducible refine g_callf n_impl_BytesOf ?_);refine aw_rcall (s_impl_BytesOf (t := t) (by omega) slr_auto) ?_)|((with_reducible refine g_callf n_spec_BytesOf ?_);refine aw_rcall (s_spec_BytesOf (t := t) (by omega) slr_auto) ?_)|((with_reducible refine g_callf n_impl_SameSpan ?_);refine aw_rcall (s_impl_SameSpan slr_auto slr_auto) ?_)|((with_reducible refine g_idx ?_);((first|refine ix ?_|refine ixi ?_|(refine ixg ?_;intro _ _)|(refine ixgi ?_;intro _ _));first|rintro _ _ _ _ _ ⟨rfl,rfl⟩ _|rintro _ _ _ _ _ ⟨_,rfl,_⟩ _|rintro _ _ _ _ _ ⟨_,_,_,_,rfl,rfl,_,_⟩ _|intro _ _ _ _ _ _ _))|(refine sx ?_;intro _ _)|((with_reducible refine g_awp ?_);simp only [g0,g1,g2]))
      all_goals exact pb rfl
    · have e1 := bp_f ho
      have e2 := e1
      (repeat' first|refine vs ?_|(refine br ?_ ?_<;>intro _<;>try(exfalso;first|omega|contradiction))|((with_reducible refine g_callf n_impl_Older ?_);(refine aw_rcall (s_impl_Older (a := c) (b := d)) ?_; rw [e1]))|((with_reducible refine g_callf n_spec_Older ?_);(refine aw_rcall (s_spec_Older (a := c) (b := d)) ?_; rw [e1]))|((with_reducible refine g_callf n_impl_Older ?_);(refine aw_rcall (s_impl_Older (a := d) (b := c)) ?_; rw [e2]))|((with_reducible refine g_callf n_impl_TrailAt ?_);(refine aw_rcall (s_impl_TrailAt (xs := M) slr_auto) ?_; rw [hk]))|((with_reducible refine g_callf n_impl_TrailAt ?_);refine aw_rcall (s_impl_TrailAt slr_auto) ?_)|((with_reducible refine g_callf n_spec_TrailAt ?_);refine aw_rcall (s_spec_TrailAt slr_auto) ?_)|((with_reducible refine g_callf n_impl_BytesOf ?_);refine aw_rcall (s_impl_BytesOf (t := t) (by omega) slr_auto) ?_)|((with_reducible refine g_callf n_spec_BytesOf ?_);refine aw_rcall (s_spec_BytesOf (t := t) (by omega) slr_auto) ?_)|((with_reducible refine g_callf n_impl_SameSpan ?_);refine aw_rcall (s_impl_SameSpan slr_auto slr_auto) ?_)|((with_reducible refine g_idx ?_);((first|refine ix ?_|refine ixi ?_|(refine ixg ?_;intro _ _)|(refine ixgi ?_;intro _ _));first|rintro _ _ _ _ _ ⟨rfl,rfl⟩ _|rintro _ _ _ _ _ ⟨_,rfl,_⟩ _|rintro _ _ _ _ _ ⟨_,_,_,_,rfl,rfl,_,_⟩ _|intro _ _ _ _ _ _ _))|(refine sx ?_;intro _ _)|((with_reducible refine g_awp ?_);simp only [g0,g1,g2]))
      all_goals exact pb rfl
  · have hsum : sumI spanSize (u.spans ++ [s]) = sumI spanSize u.spans + spanSize s := by rw [sumI_app]; simp [sumI]
    have huA := hla u (List.mem_of_getElem? hu)
    have husz := trA_sz huA
    have hu2 : Sz.sz u = u.spans.length + szs u.spans := rfl
    have hsb := spanSize_b s
    have hub := sumI_b spanSize_b u.spans
    have hul := huA.2.2.2.1
    have hnsz : Sz.sz (⟨u.id, u.stamp, u.first, u.spans ++ [s]⟩ : Trail) ≤ 67108864 := by
      show (u.spans ++ [s]).length + szs (u.spans ++ [s]) ≤ _
      rw [szs_app, List.length_append]
      simp only [szs, List.length_singleton]
      omega
    have hlen1 : (u.spans ++ [s]).length = u.spans.length + 1 := by simp
    dsimp only at hlast2 hpos hkt
    by_cases ho : older c d
    · have e1 := bp_t ho
      have e2 := bp_f (hno ho)
      (repeat' first|refine vs ?_|(refine br ?_ ?_<;>intro _<;>try(exfalso;first|omega|contradiction))|((with_reducible refine g_callf n_impl_Older ?_);(refine aw_rcall (s_impl_Older (a := c) (b := d)) ?_; rw [e1]))|((with_reducible refine g_callf n_spec_Older ?_);(refine aw_rcall (s_spec_Older (a := c) (b := d)) ?_; rw [e1]))|((with_reducible refine g_callf n_impl_Older ?_);(refine aw_rcall (s_impl_Older (a := d) (b := c)) ?_; rw [e2]))|((with_reducible refine g_callf n_impl_TrailAt ?_);(refine aw_rcall (s_impl_TrailAt (xs := M) slr_auto) ?_; rw [hk]))|((with_reducible refine g_callf n_impl_TrailAt ?_);(refine aw_rcall (s_impl_TrailAt (xs := l) slr_auto) ?_; rw [c1]))|((with_reducible refine g_callf n_impl_TrailAt ?_);refine aw_rcall (s_impl_TrailAt slr_auto) ?_)|((with_reducible refine g_callf n_spec_TrailAt ?_);refine aw_rcall (s_spec_TrailAt slr_auto) ?_)|((with_reducible refine g_callf n_impl_BytesOf ?_);refine aw_rcall (s_impl_BytesOf (t := t) (by omega) slr_auto) ?_)|((with_reducible refine g_callf n_spec_BytesOf ?_);refine aw_rcall (s_spec_BytesOf (t := t) (by omega) slr_auto) ?_)|((with_reducible refine g_callf n_impl_SameSpan ?_);refine aw_rcall (s_impl_SameSpan slr_auto slr_auto) ?_)|((with_reducible refine g_callf n_impl_BytesOf ?_);refine aw_rcall (s_impl_BytesOf (t := u) (by omega) slr_auto) ?_)|((with_reducible refine g_callf n_impl_BytesOf ?_);refine aw_rcall (s_impl_BytesOf (t := ⟨u.id, u.stamp, u.first, u.spans ++ [s]⟩) (by omega) slr_auto) ?_)|((with_reducible refine g_callf n_impl_SizeOf ?_);refine aw_rcall (s_impl_SizeOf (s := s) (by omega) slr_auto) ?_)|((with_reducible refine g_idx ?_);((first|refine ix ?_|refine ixi ?_|(refine ixg ?_;intro _ _)|(refine ixgi ?_;intro _ _));first|rintro _ _ _ _ _ ⟨rfl,rfl⟩ _|rintro _ _ _ _ _ ⟨_,rfl,_⟩ _|rintro _ _ _ _ _ ⟨_,_,_,_,rfl,rfl,_,_⟩ _|intro _ _ _ _ _ _ _))|(refine sx ?_;intro _ _)|((with_reducible refine g_awp ?_);simp only [g0,g1,g2]))
      all_goals exact pb rfl
    · have e1 := bp_f ho
      have e2 := e1
      (repeat' first|refine vs ?_|(refine br ?_ ?_<;>intro _<;>try(exfalso;first|omega|contradiction))|((with_reducible refine g_callf n_impl_Older ?_);(refine aw_rcall (s_impl_Older (a := c) (b := d)) ?_; rw [e1]))|((with_reducible refine g_callf n_spec_Older ?_);(refine aw_rcall (s_spec_Older (a := c) (b := d)) ?_; rw [e1]))|((with_reducible refine g_callf n_impl_Older ?_);(refine aw_rcall (s_impl_Older (a := d) (b := c)) ?_; rw [e2]))|((with_reducible refine g_callf n_impl_TrailAt ?_);(refine aw_rcall (s_impl_TrailAt (xs := M) slr_auto) ?_; rw [hk]))|((with_reducible refine g_callf n_impl_TrailAt ?_);(refine aw_rcall (s_impl_TrailAt (xs := l) slr_auto) ?_; rw [c1]))|((with_reducible refine g_callf n_impl_TrailAt ?_);refine aw_rcall (s_impl_TrailAt slr_auto) ?_)|((with_reducible refine g_callf n_spec_TrailAt ?_);refine aw_rcall (s_spec_TrailAt slr_auto) ?_)|((with_reducible refine g_callf n_impl_BytesOf ?_);refine aw_rcall (s_impl_BytesOf (t := t) (by omega) slr_auto) ?_)|((with_reducible refine g_callf n_spec_BytesOf ?_);refine aw_rcall (s_spec_BytesOf (t := t) (by omega) slr_auto) ?_)|((with_reducible refine g_callf n_impl_SameSpan ?_);refine aw_rcall (s_impl_SameSpan slr_auto slr_auto) ?_)|((with_reducible refine g_callf n_impl_BytesOf ?_);refine aw_rcall (s_impl_BytesOf (t := u) (by omega) slr_auto) ?_)|((with_reducible refine g_callf n_impl_BytesOf ?_);refine aw_rcall (s_impl_BytesOf (t := ⟨u.id, u.stamp, u.first, u.spans ++ [s]⟩) (by omega) slr_auto) ?_)|((with_reducible refine g_callf n_impl_SizeOf ?_);refine aw_rcall (s_impl_SizeOf (s := s) (by omega) slr_auto) ?_)|((with_reducible refine g_idx ?_);((first|refine ix ?_|refine ixi ?_|(refine ixg ?_;intro _ _)|(refine ixgi ?_;intro _ _));first|rintro _ _ _ _ _ ⟨rfl,rfl⟩ _|rintro _ _ _ _ _ ⟨_,rfl,_⟩ _|rintro _ _ _ _ _ ⟨_,_,_,_,rfl,rfl,_,_⟩ _|intro _ _ _ _ _ _ _))|(refine sx ?_;intro _ _)|((with_reducible refine g_awp ?_);simp only [g0,g1,g2]))
      all_goals exact pb rfl
end Go.Proofs.Ytpcgbddmdipfbaa
