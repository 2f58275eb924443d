
/- The law FnCaches, walked. -/
import Derived.Test.YtpcgbddmdipfbaaW48
import Derived.Test.YtpcgbddmdipfbaaW49
set_option linter.unusedSimpArgs false
set_option linter.unusedVariables false
set_option maxHeartbeats 4000000
namespace Go.Proofs.Ytpcgbddmdipfbaa
open Go Go.Ab
section
/- laws.FnCaches -/
abbrev q_laws_FnCaches_1 (v103 : AV) (v5 : AV) (v6 : AV) (v104 : AV) (v3 : AV) (v10 : AV) (v98 : AV) : Prog := .gop v103 false (.mv v5) fun v105 => .gop v103 false (.ldn 3 v6) fun v106 => .gop v103 false (.bslice 3 1 [AV.int .i64 0, AV.int .i64 0, AV.bool false] [(0, 3, v106)]) fun v107 => .gop v103 false (.mv v5) fun v108 => .gop v103 false (.call n_impl_CacheOk [v104, v105]) fun v109 => .gchk v103 false (.ldn 3 v6) v106 (.gchk v103 false (.bslice 3 1 [AV.int .i64 0, AV.int .i64 0, AV.bool false] [(0, 3, v106)]) v107 (.gop v103 false (.call n_impl_CacheOk [v107, v108]) fun v110 => .gop v103 false (.bin 2 .eql v109 v110) fun v111 => .gop v103 false (.mv v111) fun v112 => .gop v112 true (.mv v3) fun v113 => .gop v112 true (.mv v10) fun v114 => .gop v112 true (.call n_impl_Forgets [v113, v114]) fun v115 => .gop v112 true (.len 0 v115) fun v116 => .gop v112 true (.bin 0 .leq v116 (AV.int .i64 1)) fun v117 => .gop v103 false (.pick v112 v117 (AV.bool false)) fun v118 => .gop v98 true (.pick v103 (AV.bool true) v118) fun v119 => .op (.pick v98 v119 (AV.bool false)) fun v120 => .fin [.val v120]))
abbrev q_laws_FnCaches_2 (v83 : AV) (v84 : AV) (v76 : AV) (v6 : AV) (v10 : AV) (v3 : AV) (v5 : AV) : Prog := .op (.pick v83 v84 (AV.bool false)) fun v85 => .gop v85 true (.ldn 3 v76) fun v86 => .gop v85 true (.ldn 3 v6) fun v87 => .gop v85 true (.eqs [0, 0, 2] false v86 v87) fun v88 => .op (.pick v85 v88 (AV.bool false)) fun v89 => .gop v89 true (.mv v10) fun v90 => .gop v89 true (.mv v10) fun v91 => .gop v89 true (.len 0 v91) fun v92 => .gop v89 true (.bin 0 .sub v92 (AV.int .i64 1)) fun v93 => .gop v89 true (.idx 3 v90 v93) fun v94 => .gop v89 true (.ldn 3 v94) fun v95 => .gop v89 true (.ldn 3 v6) fun v96 => .gop v89 true (.eqs [0, 0, 2] false v95 v96) fun v97 => .op (.pick v89 v97 (AV.bool false)) fun v98 => .gop v98 true (.mv v3) fun v99 => .gop v98 true (.mv v5) fun v100 => .gop v98 true (.call n_impl_CacheOk [v99, v100]) fun v101 => .gop v98 true (.una .not v101) fun v102 => .gop v98 true (.mv v102) fun v103 => .gop v103 false (.mv v10) fun v104 => q_laws_FnCaches_1 v103 v5 v6 v104 v3 v10 v98
abbrev q_laws_FnCaches_3 (v56 : AV) (v34 : AV) (v60 : AV) (v59 : AV) (v5 : AV) (v10 : AV) (v3 : AV) (v11 : AV) (v6 : AV) : Prog := .gop v56 false (.mv v34) fun v61 => .gop v56 false (.call n_spec_Forgets [v60, v61]) fun v62 => .gop v56 false (.call n_laws_sameInts [v59, v62]) fun v63 => .gop v56 false (.una .not v63) fun v64 => .op (.pick v56 (AV.bool true) v64) fun v65 => .ite v65 (.fin [.val (AV.bool false)]) (.op (.bin 0 .lss v5 (AV.int .i64 1)) fun v66 => .ite v66 (.op (.call n_laws_sameCache [v10, v3]) fun v67 => .gop v67 true (.mv v11) fun v68 => .gop v67 true (.bin 0 .eql v68 (AV.int .i64 0)) fun v69 => .op (.pick v67 v69 (AV.bool false)) fun v70 => .fin [.val v70]) (.op (.fad 0 v6) fun v71 => .op (.ld1 v71) fun v72 => .op (.call n_impl_VerdictOf [v10, v72]) fun v73 => .op (.ext v73 0) fun v74 => .op (.ext v73 1) fun v75 => .op (.alloc [AV.int .i64 0, AV.int .i64 0, AV.bool false]) fun v76 => .op (.st 3 v76 v74) fun v77 => .op (.len 0 v10) fun v78 => .op (.bin 0 .leq v78 v5) fun v79 => .gop v79 true (.mv v10) fun v80 => .gop v79 true (.len 0 v80) fun v81 => .gop v79 true (.bin 0 .geq v81 (AV.int .i64 1)) fun v82 => .op (.pick v79 v82 (AV.bool false)) fun v83 => .gop v83 true (.mv v75) fun v84 => q_laws_FnCaches_2 v83 v84 v76 v6 v10 v3 v5))
abbrev q_laws_FnCaches_4 (v40 : AV) (v17 : AV) (v18 : AV) (v25 : AV) (v30 : AV) (v24 : AV) (v29 : AV) (v33 : AV) (v34 : AV) (v5 : AV) (v10 : AV) (v3 : AV) (v11 : AV) (v6 : AV) : Prog := .gop v40 false (.mv v17) fun v41 => .gop v40 false (.mv v18) fun v42 => .gop v40 false (.call n_impl_CacheOk [v41, v42]) fun v43 => .gop v40 false (.mv v17) fun v44 => .gop v40 false (.mv v18) fun v45 => .gop v40 false (.call n_spec_CacheOk [v44, v45]) fun v46 => .gop v40 false (.bin 2 .neq v43 v46) fun v47 => .op (.pick v40 (AV.bool true) v47) fun v48 => .gop v48 false (.ldn 3 v25) fun v49 => .gop v48 false (.ldn 3 v30) fun v50 => .gop v48 false (.eqs [0, 0, 2] true v49 v50) fun v51 => .op (.pick v48 (AV.bool true) v51) fun v52 => .gop v52 false (.mv v24) fun v53 => .gop v52 false (.mv v29) fun v54 => .gop v52 false (.bin 2 .neq v53 v54) fun v55 => .op (.pick v52 (AV.bool true) v55) fun v56 => .gop v56 false (.mv v33) fun v57 => .gop v56 false (.mv v34) fun v58 => .gop v56 false (.call n_impl_Forgets [v57, v58]) fun v59 => .gop v56 false (.mv v33) fun v60 => q_laws_FnCaches_3 v56 v34 v60 v59 v5 v10 v3 v11 v6
abbrev q_laws_FnCaches_5 (v19 : AV) (v20 : AV) (x0 : AV) (v10 : AV) (v14 : AV) (v11 : AV) (v15 : AV) (v17 : AV) (v18 : AV) (v5 : AV) (v3 : AV) (v6 : AV) : Prog := .op (.ext v19 1) fun v21 => .op (.call n_impl_VerdictOf [v20, v21]) fun v22 => .op (.ext v22 0) fun v23 => .op (.ext v22 1) fun v24 => .op (.alloc [AV.int .i64 0, AV.int .i64 0, AV.bool false]) fun v25 => .op (.st 3 v25 v23) fun v26 => .op (.call n_spec_VerdictOf [v20, v21]) fun v27 => .op (.ext v27 0) fun v28 => .op (.ext v27 1) fun v29 => .op (.alloc [AV.int .i64 0, AV.int .i64 0, AV.bool false]) fun v30 => .op (.st 3 v30 v28) fun v31 => .op (.call n_spec_DrawForgets [x0]) fun v32 => .op (.ext v32 0) fun v33 => .op (.ext v32 1) fun v34 => .op (.call n_laws_sameCache [v10, v14]) fun v35 => .op (.una .not v35) fun v36 => .gop v36 false (.mv v11) fun v37 => .gop v36 false (.mv v15) fun v38 => .gop v36 false (.bin 0 .neq v37 v38) fun v39 => .op (.pick v36 (AV.bool true) v39) fun v40 => q_laws_FnCaches_4 v40 v17 v18 v25 v30 v24 v29 v33 v34 v5 v10 v3 v11 v6
def p_laws_FnCaches (x0 : AV) : Prog := .op (.call n_laws_big [x0]) fun v1 => .ite v1 (.fin [.val (AV.bool true)]) (.op (.call n_spec_DrawRemember [x0]) fun v2 => .op (.ext v2 0) fun v3 => .op (.ext v2 1) fun v4 => .op (.ext v2 2) fun v5 => .op (.alloc [AV.int .i64 0, AV.int .i64 0, AV.bool false]) fun v6 => .op (.st 3 v6 v4) fun v7 => .op (.ldn 3 v6) fun v8 => .op (.call n_impl_Remember [v3, v8, v5]) fun v9 => .op (.ext v9 0) fun v10 => .op (.ext v9 1) fun v11 => .op (.ldn 3 v6) fun v12 => .op (.call n_spec_Remember [v3, v12, v5]) fun v13 => .op (.ext v13 0) fun v14 => .op (.ext v13 1) fun v15 => .op (.call n_spec_DrawCacheOk [x0]) fun v16 => .op (.ext v16 0) fun v17 => .op (.ext v16 1) fun v18 => .op (.call n_spec_DrawVerdictOf [x0]) fun v19 => .op (.ext v19 0) fun v20 => q_laws_FnCaches_5 v19 v20 x0 v10 v14 v11 v15 v17 v18 v5 v3 v6)
theorem c_laws_FnCaches (x0 : AV) : CC Try.prog n_laws_FnCaches [x0] (p_laws_FnCaches x0) := cc Try.func6 [] (fun r => if r = 16 then [(0, []), (1, []), (2, []), (3, []), (4, []), (5, []), (6, []), (7, []), (8, []), (9, []), (10, []), (11, []), (12, []), (13, []), (14, []), (15, []), (16, []), (17, []), (18, []), (19, []), (20, []), (21, []), (22, []), (23, []), (24, []), (25, []), (26, []), (27, []), (28, []), (29, []), (30, []), (31, []), (32, []), (33, []), (34, []), (36, []), (37, []), (38, []), (35, [36, 37]), (39, []), (40, []), (41, []), (42, []), (43, []), (44, []), (45, []), (46, []), (47, []), (48, []), (49, []), (50, [])] else []) (by kernel_rfl)
end
theorem law_FnCaches {h : AH} {v0 : AV} {x0 : List UInt8} {F0 : List Nat} (r0 : SlRep h v0 x0 F0) (k0 : ∀ x ∈ x0, Cel.ok x) : RCalls Try.prog n_laws_FnCaches [v0] h (.bool true) := by
  refine reader (c_laws_FnCaches _) (by simp only [old]) ?_
  unfold p_laws_FnCaches
  refine aw_rcall_b (s_laws_big r0) ?_ ?_ <;> intro hn <;> first | replace hn := bp_true hn | replace hn := bp_false hn
  · (repeat' first|refine vs ?_|(refine br ?_ ?_<;>intro _<;>try(exfalso;first|omega|contradiction))|((with_reducible refine g_idx ?_);((first|refine ix ?_|refine ixi ?_|(refine ixg ?_;intro _ _)|(refine ixgi ?_;intro _ _));first|rintro _ _ _ _ _ ⟨rfl,rfl⟩ _|rintro _ _ _ _ _ ⟨_,rfl,_⟩ _|rintro _ _ _ _ _ ⟨_,_,_,_,rfl,rfl,_,_⟩ _|intro _ _ _ _ _ _ _))|(refine sx ?_;intro _ _)|((with_reducible refine g_awp ?_);simp only [g0,g1,g2]))
    exact pb rfl
  have hs : x0.length ≤ 1048576 := by omega
  clear hn k0
  refine vs ?_
  refine aw_call (s_spec_DrawRemember hs slr_auto) ?_
  rintro _ h1 ⟨w, l, Fl, a, b, c, n, rfl, rl, e1, hl, hn0, hn1⟩
  have n1 := e1.1
  refine vs ?_
  refine aw_call (s_impl_Remember (v := ⟨a, b, c⟩) (m := n) slr_auto (by omega)) ?_
  rintro _ h2 ⟨e2, wm, Gm, rfl, rm, -⟩
  have n2 := e2.1
  simp only [push_n, upd_n] at n2
  refine vs ?_
  refine aw_call (s_spec_Remember (v := ⟨a, b, c⟩) (m := n) (xs := l) slr_auto (by omega)) ?_
  rintro _ h3 ⟨e3, wn, Gn, rfl, rn, -⟩
  have n3 := e3.1
  refine vs ?_
  refine aw_call (s_spec_DrawCacheOk hs slr_auto) ?_
  rintro _ h4 ⟨wa, xa, Fa, k, rfl, ra, -, e4, ha, -, -⟩
  have n4 := e4.1
  refine vs ?_
  refine aw_call (s_spec_DrawVerdictOf hs slr_auto) ?_
  rintro _ h5 ⟨wb, xb, Fb, t, rfl, rb, -, e5, hb, -, -⟩
  have n5 := e5.1
  obtain ⟨p, q, s, ok, hv⟩ : ∃ p q s ok, vOf xb t = (⟨p, q, s⟩, ok) := ⟨_, _, _, _, rfl⟩
  have cv1 : ∀ {h : AH} {u : AV} {F : List Nat}, SlRep h u xb F → RCalls Try.prog n_impl_VerdictOf [u, .int .i64 t] h (.tup [.agg [.int .i64 p, .int .i64 q, .bool s], .bool ok]) := fun r => by
    have := s_impl_VerdictOf (k := t) r; rw [hv] at this; exact this
  have cv2 : ∀ {h : AH} {u : AV} {F : List Nat}, SlRep h u xb F → RCalls Try.prog n_spec_VerdictOf [u, .int .i64 t] h (.tup [.agg [.int .i64 p, .int .i64 q, .bool s], .bool ok]) := fun r => by
    have := s_spec_VerdictOf (k := t) r; rw [hv] at this; exact this
  refine vs ?_
  refine aw_rcall (cv1 slr_auto) ?_
  refine vs ?_
  refine aw_rcall (cv2 slr_auto) ?_
  refine vs ?_
  refine aw_call (s_spec_DrawForgets hs slr_auto) ?_
  rintro _ h6 ⟨wx, lx, Fx, wy, ly, Fy, rfl, rx, ry, e6, hx, hy⟩
  have n6 := e6.1
  simp only [push_n, upd_n] at n6
  refine vs ?_
  refine aw_rcall (s_laws_sameCache (rem l ⟨a, b, c⟩ n).1 _ _ _ _ _ slr_auto slr_auto) ?_
  refine vs ?_
  refine aw_rcall (s_impl_CacheOk (xs := xa) slr_auto) ?_
  refine vs ?_
  refine aw_rcall (s_spec_CacheOk (xs := xa) slr_auto) ?_
  refine vs ?_
  refine w_eqsVn (x := ⟨p, q, s⟩) ?_
  refine vs ?_
  refine aw_call (s_impl_Forgets rx ry (by omega)) ?_
  rintro u7 h7 ⟨e7, G7, r7, -⟩
  have n7 := e7.1
  refine vs ?_
  refine aw_call (s_spec_Forgets (xs := lx) (ys := ly) slr_auto slr_auto (by omega)) ?_
  rintro u8 h8 ⟨e8, G8, r8, -⟩
  have n8 := e8.1
  refine aw_rcall (s_laws_sameInts (forgets lx ly) _ _ _ _ _ slr_auto slr_auto) ?_
  refine vs ?_
  have bv : Bk h8 h1.n [.int .i64 a, .int .i64 b, .bool c] 0 := bk_auto
  have rl8 : SlRep h8 w l Fl := slr_auto
  have rm8 : SlRep h8 wm (rem l ⟨a, b, c⟩ n).1 Gm := slr_auto
  have eh : Ext h h8 := ext_auto
  clear rl rm rn ra rb rx ry r7 r8 e1 e2 e3 e4 e5 e6 e7 e8 cv1 cv2 hv
  refine br (fun hm => ?_) (fun hm => ?_)
  · have hr : rem l ⟨a, b, c⟩ n = (l, 0) := by unfold rem; rw [if_pos hm]
    rw [hr] at rm8 ⊢
    refine vs ?_
    refine aw_rcall (s_laws_sameCache l _ _ _ _ _ rm8 rl8) ?_
    (repeat' first|refine vs ?_|(refine br ?_ ?_<;>intro _<;>try(exfalso;first|omega|contradiction))|((with_reducible refine g_idx ?_);((first|refine ix ?_|refine ixi ?_|(refine ixg ?_;intro _ _)|(refine ixgi ?_;intro _ _));first|rintro _ _ _ _ _ ⟨rfl,rfl⟩ _|rintro _ _ _ _ _ ⟨_,rfl,_⟩ _|rintro _ _ _ _ _ ⟨_,_,_,_,rfl,rfl,_,_⟩ _|intro _ _ _ _ _ _ _))|(refine sx ?_;intro _ _)|((with_reducible refine g_awp ?_);simp only [g0,g1,g2]))
    exact pb rfl
  · obtain ⟨Y, hY, hYs⟩ : ∃ Y, (rem l ⟨a, b, c⟩ n).1 = Y ++ [⟨a, b, c⟩] ∧ Y = (rest0 l ⟨a, b, c⟩).drop ((rest0 l ⟨a, b, c⟩).length + 1 - n.toNat) := ⟨_, rem_most hm, rfl⟩
    have hY1 : Y.length = (rest0 l ⟨a, b, c⟩).length - ((rest0 l ⟨a, b, c⟩).length + 1 - n.toNat) := by rw [hYs, List.length_drop]
    have hsub : Y.Sublist (rest0 l ⟨a, b, c⟩) := by rw [hYs]; exact List.drop_sublist _ _
    have hlm : (Y ++ [(⟨a, b, c⟩ : Verdict)]).length = Y.length + 1 := by simp
    have hlast : (Y ++ [(⟨a, b, c⟩ : Verdict)])[(((Y ++ [(⟨a, b, c⟩ : Verdict)]).length : Int) - 1).toNat]? = some ⟨a, b, c⟩ := by
      rw [hlm, show (((Y.length + 1 : Nat) : Int) - 1).toNat = Y.length by omega]; simp
    have hfor : (forgets l (Y ++ [⟨a, b, c⟩])).length ≤ (rest0 l ⟨a, b, c⟩).length + 1 - n.toNat := by rw [hYs]; exact forgets_end
    have hrl := rest0_len l ⟨a, b, c⟩
    have hvo : vOf (Y ++ [⟨a, b, c⟩]) a = (⟨a, b, c⟩, true) := vOf_end (v := ⟨a, b, c⟩) fun x hx => (rest0_in (hsub.subset hx)).2
    have hcc : cOk l n → cOk (Y ++ [⟨a, b, c⟩]) n = cOk [(⟨a, b, c⟩ : Verdict)] n := fun h => propext (cOk_end h hsub (by rw [hlm]; omega))
    rw [hY] at rm8
    clear hY hYs
    have cv3 : ∀ {h : AH} {u : AV} {F : List Nat}, SlRep h u (Y ++ [(⟨a, b, c⟩ : Verdict)]) F → RCalls Try.prog n_impl_VerdictOf [u, .int .i64 a] h (.tup [.agg [.int .i64 a, .int .i64 b, .bool c], .bool true]) := fun r => by
      have := s_impl_VerdictOf (k := a) r; rw [hvo] at this; exact this
    refine vs ?_
    refine aw_rcall (cv3 slr_auto) ?_
    refine vs ?_
    refine br (fun q1 => ?_) (fun q1 => ?_)
    rotate_left
    · exfalso; rw [hlm] at q1; omega
    refine vs ?_
    refine br (fun q2 => ?_) (fun q2 => ?_)
    rotate_left
    · exfalso; rw [hlm] at q2; omega
    refine vs ?_
    refine w_eqsVe (x := ⟨a, b, c⟩) ?_
    refine vs ?_
    refine aw_idxi (slr_auto : SlRep _ wm (Y ++ [(⟨a, b, c⟩ : Verdict)]) Gm) (by rw [hlm]; omega) hlast rfl ?_
    rintro bb o _ Fi aa ⟨rfl, -⟩ _
    refine vs ?_
    refine w_eqsVe (x := ⟨a, b, c⟩) ?_
    refine vs ?_
    by_cases hc : cOk l n
    · have c1 : ∀ {h : AH}, SlRep h w l Fl → RCalls Try.prog n_impl_CacheOk [w, .int .i64 n] h (.bool true) := fun r => by
        have := s_impl_CacheOk (k := n) r; rw [bp_t hc] at this; exact this
      have c2 : ∀ {h : AH}, SlRep h wm (Y ++ [(⟨a, b, c⟩ : Verdict)]) Gm → RCalls Try.prog n_impl_CacheOk [wm, .int .i64 n] h (.bool (bp (cOk [(⟨a, b, c⟩ : Verdict)] n))) := fun r => by
        have := s_impl_CacheOk (k := n) r; rw [hcc hc] at this; exact this
      refine aw_rcall (c1 slr_auto) ?_
      refine vs ?_
      refine aw_rcall (c2 slr_auto) ?_
      refine vs ?_
      have rs := slrep_push (h := h8.push ⟨[.int .i64 a, .int .i64 b, .bool c], 0, 0⟩) (n := 1) (xs := [(⟨a, b, c⟩ : Verdict)]) rfl (by decide) (reps_one ⟨rfl, rfl⟩)
      refine w_chkb bk_push af_auto (by decide) (by rfl) ?_
      refine vs ?_
      refine aw_rcall (s_impl_CacheOk (xs := [(⟨a, b, c⟩ : Verdict)]) rs) ?_
      refine vs ?_
      refine aw_beql ?_
      rw [beq_self_eq_true]
      refine vs ?_
      refine aw_call (s_impl_Forgets (xs := l) (ys := Y ++ [(⟨a, b, c⟩ : Verdict)]) slr_auto slr_auto (by omega)) ?_
      rintro u9 h9 ⟨e9, G9, r9, -⟩
      have hln := hc.2
      (repeat' first|refine vs ?_|(refine br ?_ ?_<;>intro _<;>try(exfalso;first|omega|contradiction))|((with_reducible refine g_idx ?_);((first|refine ix ?_|refine ixi ?_|(refine ixg ?_;intro _ _)|(refine ixgi ?_;intro _ _));first|rintro _ _ _ _ _ ⟨rfl,rfl⟩ _|rintro _ _ _ _ _ ⟨_,rfl,_⟩ _|rintro _ _ _ _ _ ⟨_,_,_,_,rfl,rfl,_,_⟩ _|intro _ _ _ _ _ _ _))|(refine sx ?_;intro _ _)|((with_reducible refine g_awp ?_);simp only [g0,g1,g2]))
      exact pb rfl
    · have c1 : ∀ {h : AH}, SlRep h w l Fl → RCalls Try.prog n_impl_CacheOk [w, .int .i64 n] h (.bool false) := fun r => by
        have := s_impl_CacheOk (k := n) r; rw [bp_f hc] at this; exact this
      refine aw_rcall (c1 slr_auto) ?_
      (repeat' first|refine vs ?_|(refine br ?_ ?_<;>intro _<;>try(exfalso;first|omega|contradiction))|((with_reducible refine g_idx ?_);((first|refine ix ?_|refine ixi ?_|(refine ixg ?_;intro _ _)|(refine ixgi ?_;intro _ _));first|rintro _ _ _ _ _ ⟨rfl,rfl⟩ _|rintro _ _ _ _ _ ⟨_,rfl,_⟩ _|rintro _ _ _ _ _ ⟨_,_,_,_,rfl,rfl,_,_⟩ _|intro _ _ _ _ _ _ _))|(refine sx ?_;intro _ _)|((with_reducible refine g_awp ?_);simp only [g0,g1,g2]))
      exact pb rfl
end Go.Proofs.Ytpcgbddmdipfbaa
