/- The law FnStores, walked. -/
import Derived.Test.YtpcgbddmdipfbaaW64
set_option linter.unusedSimpArgs false
set_option linter.unusedVariables false
set_option maxHeartbeats 4000000
namespace Go.Proofs.Ytpcgbddmdipfbaa
open Go Go.Ab
section
/- laws.FnStores -/
abbrev q_laws_FnStores_1 (v118 : AV) (v6 : AV) (v4 : AV) (v116 : AV) : Prog := .gop v118 false (.mv v6) fun v119 => .gop v118 false (.mv v4) fun v120 => .gop v118 false (.call n_impl_HeldBytes [v119]) fun v121 => .gop v118 false (.call n_impl_HeldBytes [v120]) fun v122 => .gop v118 false (.bin 0 .eql v121 v122) fun v123 => .gop v116 true (.pick v118 (AV.bool true) v123) fun v124 => .op (.pick v116 v124 (AV.bool false)) fun v125 => .fin [.val v125]
abbrev q_laws_FnStores_2 (v97 : AV) (v81 : AV) (v98 : AV) (v93 : AV) (v6 : AV) (v4 : AV) (v94 : AV) : Prog := .gop v97 true (.mv v81) fun v99 => .gop v97 true (.len 0 v99) fun v100 => .gop v97 true (.bin 0 .gtr v100 (AV.int .i64 0)) fun v101 => .gop v97 true (.bin 2 .eql v98 v101) fun v102 => .op (.pick v97 v102 (AV.bool false)) fun v103 => .gop v103 true (.mv v93) fun v104 => .gop v103 true (.una .not v104) fun v105 => .gop v103 true (.mv v105) fun v106 => .gop v106 false (.mv v6) fun v107 => .gop v106 false (.mv v4) fun v108 => .gop v106 false (.ldn 4 v94) fun v109 => .gop v106 false (.call n_impl_HeldBytes [v107]) fun v110 => .gchk v106 false (.ldn 4 v94) v109 (.gop v106 false (.call n_impl_HeldBytes [v108]) fun v111 => .gchk v106 false (.ldn 4 v94) v109 (.gop v106 false (.call n_impl_BytesOf [v109]) fun v112 => .gop v106 false (.bin 0 .sub v111 v112) fun v113 => .gop v106 false (.bin 0 .eql v110 v113) fun v114 => .gop v103 true (.pick v106 (AV.bool true) v114) fun v115 => .op (.pick v103 v115 (AV.bool false)) fun v116 => .gop v116 true (.mv v93) fun v117 => .gop v116 true (.mv v117) fun v118 => q_laws_FnStores_1 v118 v6 v4 v116))
abbrev q_laws_FnStores_3 (v59 : AV) (v2 : AV) (v60 : AV) (v31 : AV) (v20 : AV) (v24 : AV) (v4 : AV) (v5 : AV) (v23 : AV) (v6 : AV) : Prog := .gop v59 false (.mv v2) fun v61 => .gop v59 false (.call n_spec_OpenTrails [v61]) fun v62 => .gop v59 false (.call n_laws_sameTrails [v60, v62]) fun v63 => .gop v59 false (.una .not v63) fun v64 => .op (.pick v59 (AV.bool true) v64) fun v65 => .gop v65 false (.mv v2) fun v66 => .gop v65 false (.call n_impl_HeldBytes [v66]) fun v67 => .gop v65 false (.mv v2) fun v68 => .gop v65 false (.call n_spec_HeldBytes [v68]) fun v69 => .gop v65 false (.bin 0 .neq v67 v69) fun v70 => .op (.pick v65 (AV.bool true) v70) fun v71 => .ite v71 (.fin [.val (AV.bool false)]) (.loop [AV.int .i64 0, AV.int .i64 0] (fun vs72 => .op (.len 0 v31) fun v74 => .op (.bin 0 .lss (g vs72 1) v74) fun v75 => .ite v75 (.op (.idx 4 v31 (g vs72 1)) fun v76 => .op (.ldn 4 v76) fun v77 => .op (.call n_impl_BytesOf [v77]) fun v78 => .op (.bin 0 .add (g vs72 0) v78) fun v79 => .op (.bin 0 .add (g vs72 1) (AV.int .i64 1)) fun v80 => .leaf 0 [v79, v80]) (.leaf 2 [g vs72 0, g vs72 1])) fun t73 vs72 => tsel t73 1 (.leaf 1 vs72) (tsel t73 2 (.op (.call n_impl_OpenTrails [v20]) fun v81 => .loop [AV.int .i64 0] (fun vs82 => .op (.len 0 v81) fun v84 => .op (.bin 0 .lss (g vs82 0) v84) fun v85 => .ite v85 (.op (.idx 4 v81 (g vs82 0)) fun v86 => .op (.ldn 4 v86) fun v87 => .op (.ldn 4 v24) fun v88 => .op (.call n_impl_Older [v87, v88]) fun v89 => .ite v89 (.fin [.val (AV.bool false)]) (.op (.bin 0 .add (g vs82 0) (AV.int .i64 1)) fun v90 => .leaf 0 [v90])) (.leaf 4 [g vs82 0])) fun t83 vs82 => tsel t83 1 (.leaf 1 vs82) (tsel t83 4 (.op (.call n_impl_FindTrail [v4, v5]) fun v91 => .op (.ext v91 0) fun v92 => .op (.ext v91 1) fun v93 => .op (.alloc [AV.int .i64 0, AV.int .i64 0, AV.int .i64 0, AV.nils]) fun v94 => .op (.st 4 v94 v92) fun v95 => .op (.call n_impl_HeldBytes [v2]) fun v96 => .op (.bin 0 .eql (g vs72 0) v96) fun v97 => .gop v97 true (.mv v23) fun v98 => q_laws_FnStores_2 v97 v81 v98 v93 v6 v4 v94) .bad)) .bad))
abbrev q_laws_FnStores_4 (v34 : AV) (v40 : AV) (v12 : AV) (v17 : AV) (v13 : AV) (v18 : AV) (v23 : AV) (v28 : AV) (v24 : AV) (v29 : AV) (v31 : AV) (v2 : AV) (v20 : AV) (v4 : AV) (v5 : AV) (v6 : AV) : Prog := .op (.pick v34 (AV.bool true) v40) fun v41 => .gop v41 false (.mv v12) fun v42 => .gop v41 false (.mv v17) fun v43 => .gop v41 false (.bin 2 .neq v42 v43) fun v44 => .op (.pick v41 (AV.bool true) v44) fun v45 => .gop v45 false (.ldn 4 v13) fun v46 => .gop v45 false (.ldn 4 v18) fun v47 => .gop v45 false (.call n_impl_SameTrail [v46, v47]) fun v48 => .gop v45 false (.una .not v48) fun v49 => .op (.pick v45 (AV.bool true) v49) fun v50 => .gop v50 false (.mv v23) fun v51 => .gop v50 false (.mv v28) fun v52 => .gop v50 false (.bin 2 .neq v51 v52) fun v53 => .op (.pick v50 (AV.bool true) v53) fun v54 => .gop v54 false (.ldn 4 v24) fun v55 => .gop v54 false (.ldn 4 v29) fun v56 => .gop v54 false (.call n_impl_SameTrail [v55, v56]) fun v57 => .gop v54 false (.una .not v57) fun v58 => .op (.pick v54 (AV.bool true) v58) fun v59 => .gop v59 false (.mv v31) fun v60 => q_laws_FnStores_3 v59 v2 v60 v31 v20 v24 v4 v5 v23 v6
abbrev q_laws_FnStores_5 (v20 : AV) (v2 : AV) (v6 : AV) (v4 : AV) (v5 : AV) (v12 : AV) (v17 : AV) (v13 : AV) (v18 : AV) : Prog := .op (.call n_impl_OldestOf [v20]) fun v21 => .op (.ext v21 0) fun v22 => .op (.ext v21 1) fun v23 => .op (.alloc [AV.int .i64 0, AV.int .i64 0, AV.int .i64 0, AV.nils]) fun v24 => .op (.st 4 v24 v22) fun v25 => .op (.call n_spec_OldestOf [v20]) fun v26 => .op (.ext v26 0) fun v27 => .op (.ext v26 1) fun v28 => .op (.alloc [AV.int .i64 0, AV.int .i64 0, AV.int .i64 0, AV.nils]) fun v29 => .op (.st 4 v29 v27) fun v30 => .op (.call n_impl_OpenTrails [v2]) fun v31 => .op (.call n_impl_StripesOk [v2]) fun v32 => .op (.call n_spec_StripesOk [v2]) fun v33 => .op (.bin 2 .neq v32 v33) fun v34 => .gop v34 false (.mv v6) fun v35 => .gop v34 false (.mv v4) fun v36 => .gop v34 false (.mv v5) fun v37 => .gop v34 false (.call n_spec_DropTrail [v36, v37]) fun v38 => .gop v34 false (.call n_laws_sameStripes [v35, v38]) fun v39 => .gop v34 false (.una .not v39) fun v40 => q_laws_FnStores_4 v34 v40 v12 v17 v13 v18 v23 v28 v24 v29 v31 v2 v20 v4 v5 v6
def p_laws_FnStores (x0 : AV) : Prog := .op (.call n_laws_big [x0]) fun v1 => .ite v1 (.fin [.val (AV.bool true)]) (.op (.call n_spec_DrawStripesOk [x0]) fun v2 => .op (.call n_spec_DrawDropTrail [x0]) fun v3 => .op (.ext v3 0) fun v4 => .op (.ext v3 1) fun v5 => .op (.call n_impl_DropTrail [v4, v5]) fun v6 => .op (.call n_spec_DrawFindTrail [x0]) fun v7 => .op (.ext v7 0) fun v8 => .op (.ext v7 1) fun v9 => .op (.call n_impl_FindTrail [v8, v9]) fun v10 => .op (.ext v10 0) fun v11 => .op (.ext v10 1) fun v12 => .op (.alloc [AV.int .i64 0, AV.int .i64 0, AV.int .i64 0, AV.nils]) fun v13 => .op (.st 4 v13 v11) fun v14 => .op (.call n_spec_FindTrail [v8, v9]) fun v15 => .op (.ext v15 0) fun v16 => .op (.ext v15 1) fun v17 => .op (.alloc [AV.int .i64 0, AV.int .i64 0, AV.int .i64 0, AV.nils]) fun v18 => .op (.st 4 v18 v16) fun v19 => .op (.call n_spec_DrawOldestOf [x0]) fun v20 => q_laws_FnStores_5 v20 v2 v6 v4 v5 v12 v17 v13 v18)
theorem c_laws_FnStores (x0 : AV) : CC Try.prog n_laws_FnStores [x0] (p_laws_FnStores x0) := cc Try.func10 [3, 4, 5, 6, 13, 14, 15, 18, 19, 20, 21, 22] (fun r => if r = 24 then [(0, []), (1, []), (2, []), (3, []), (4, []), (5, [])] else if r = 27 then [(0, []), (1, []), (2, []), (3, []), (4, []), (5, []), (6, []), (7, []), (8, []), (9, []), (10, []), (11, []), (12, []), (13, []), (14, []), (15, []), (17, []), (19, []), (16, [19]), (18, [19]), (20, []), (21, []), (22, []), (23, []), (24, []), (25, []), (26, []), (27, []), (28, []), (30, []), (29, []), (31, []), (32, []), (33, []), (34, []), (35, [])] else []) (by kernel_rfl)
end
theorem stA_ok {l : List Stripe} (h : stA l) : ∀ x ∈ l, Cel.ok x := fun x hx => seA_ok (h.2 x hx)
theorem law_FnStores {h : AH} {v0 : AV} {x0 : List UInt8} {F0 : List Nat} (r0 : SlRep h v0 x0 F0) (k0 : ∀ x ∈ x0, Cel.ok x) : RCalls Try.prog n_laws_FnStores [v0] h (.bool true) := by
  refine reader (c_laws_FnStores _) (by simp only [old]) ?_
  unfold p_laws_FnStores
  refine aw_rcall_b (s_laws_big r0) ?_ ?_ <;> intro hn <;> first | replace hn := bp_true hn | replace hn := bp_false hn
  · (repeat' first|refine vs ?_|(refine br ?_ ?_<;>intro _<;>try(exfalso;first|omega|contradiction))|((with_reducible refine g_idx ?_);((first|refine ix ?_|refine ixi ?_|(refine ixg ?_;intro _ _)|(refine ixgi ?_;intro _ _));first|rintro _ _ _ _ _ ⟨rfl,rfl⟩ _|rintro _ _ _ _ _ ⟨_,rfl,_⟩ _|rintro _ _ _ _ _ ⟨_,_,_,_,rfl,rfl,_,_⟩ _|intro _ _ _ _ _ _ _))|(refine sx ?_;intro _ _)|((with_reducible refine g_awp ?_);simp only [g0,g1,g2]))
    exact pb rfl
  have hs : x0.length ≤ 1048576 := by omega
  clear hn k0
  refine vs ?_
  refine aw_call (s_spec_DrawStripesOk hs slr_auto) ?_
  rintro wl h1 ⟨l, Gl, rl, ol, e1, hl⟩
  have n1 := e1.1
  refine aw_call (s_spec_DrawDropTrail hs slr_auto) ?_
  rintro _ h2 ⟨wm, m, Gm, id, rfl, rm, om, e2, hm⟩
  have n2 := e2.1
  refine vs ?_
  have lsz := stA_sz hl
  have msz := stA_sz hm
  refine aw_call (s_impl_DropTrail (l := m) (by omega) rm) ?_
  rintro wd h3 ⟨e3, Gd, rd, od⟩
  have n3 := e3.1
  refine aw_call (s_spec_DrawFindTrail hs slr_auto) ?_
  rintro _ h4 ⟨wf, f, Gf, fid, rfl, rf, of_, e4, hf⟩
  have n4 := e4.1
  have fsz := stA_sz hf
  refine vs ?_
  refine aw_call (s_impl_FindTrail (l := f) (by omega) rf) ?_
  rintro _ h5 ⟨e5, _, Gt, rfl, ⟨vt, rfl, rt⟩, ot⟩
  have n5 := e5.1
  refine vs ?_
  refine aw_call (s_spec_FindTrail (l := f) (by omega) slr_auto) ?_
  rintro _ h6 ⟨e6, _, Gu, rfl, ⟨vu, rfl, ru⟩, ou⟩
  have n6 := e6.1
  simp only [push_n, upd_n] at n6
  refine vs ?_
  refine aw_call (s_spec_DrawOldestOf hs slr_auto) ?_
  rintro wo h7 ⟨o, Gov, ro, oo, e7, ho⟩
  have n7 := e7.1
  simp only [push_n, upd_n] at n7
  have osz := stA_sz ho
  refine aw_call (s_impl_OldestOf (l := o) (by omega) ro) ?_
  rintro _ h8 ⟨e8, _, Gx, rfl, ⟨vx, rfl, rx⟩, ox⟩
  have n8 := e8.1
  refine vs ?_
  refine aw_call (s_spec_OldestOf (l := o) (by omega) slr_auto) ?_
  rintro _ h9 ⟨e9, _, Gy, rfl, ⟨vy, rfl, ry⟩, oy⟩
  have n9 := e9.1
  simp only [push_n, upd_n] at n9
  refine vs ?_
  refine aw_call (s_impl_OpenTrails (l := l) (by omega) slr_auto) ?_
  rintro wa hA ⟨eA, GA, rA, oA⟩
  have nA := eA.1
  simp only [push_n, upd_n] at nA
  have hosz := openT_sz l
  have s_impl_SameTrail : ∀ {h : AH} {t : Trail} {a b : AV} {A B : List Nat}, SlRep h a t.spans A → SlRep h b t.spans B → RCalls Try.prog n_impl_SameTrail [.agg (t.cs a), .agg (t.cs b)] h (.bool true) := fun p q => by
    have := Go.Proofs.Ytpcgbddmdipfbaa.s_impl_SameTrail p q; rw [bp_t rfl] at this; exact this
  (repeat' first|refine vs0 ?_|((with_reducible refine g_callf n_impl_SameTrail ?_);refine aw_rcall (s_impl_SameTrail slr_auto slr_auto) ?_)|((with_reducible refine g_callf n_impl_StripesOk ?_);refine aw_rcall (s_impl_StripesOk (l := l) (stA_ok hl) (by omega) slr_auto) ?_)|((with_reducible refine g_callf n_spec_StripesOk ?_);refine aw_rcall (s_spec_StripesOk (l := l) (stA_ok hl) (by omega) slr_auto) ?_)|((with_reducible refine g_callf n_spec_DropTrail ?_);(refine aw_call (s_spec_DropTrail (l := m) (by omega) slr_auto) ?_; rintro wD hB ⟨eB, GB, rB, oB⟩; have nB := eB.1))|((with_reducible refine g_callf n_laws_sameStripes ?_);(refine aw_rcall (s_laws_sameStripes (dropT m id) _ _ _ _ _ slr_auto slr_auto) ?_))|((with_reducible refine g_callf n_spec_OpenTrails ?_);(refine aw_call (s_spec_OpenTrails (l := l) (by omega) slr_auto) ?_; rintro wC hC ⟨eC, GC, rC, oC⟩; have nC := eC.1))|((with_reducible refine g_callf n_laws_sameTrails ?_);(refine aw_rcall (s_laws_sameTrails (openT l) _ _ _ _ _ slr_auto slr_auto) ?_))|((with_reducible refine g_callf n_impl_HeldBytes ?_);refine aw_rcall (s_impl_HeldBytes (l := l) (by omega) slr_auto) ?_)|((with_reducible refine g_callf n_spec_HeldBytes ?_);refine aw_rcall (s_spec_HeldBytes (l := l) (by omega) slr_auto) ?_)|((with_reducible refine g_idx ?_);((first|refine ix ?_|refine ixi ?_|(refine ixg ?_;intro _ _)|(refine ixgi ?_;intro _ _));first|rintro _ _ _ _ _ ⟨rfl,rfl⟩ _|rintro _ _ _ _ _ ⟨_,rfl,_⟩ _|rintro _ _ _ _ _ ⟨_,_,_,_,rfl,rfl,_,_⟩ _|intro _ _ _ _ _ _ _))|(refine sx ?_;intro _ _)|((with_reducible refine g_awp ?_);simp only [g0,g1,g2]))
  have hvl : (openT l).length ≤ 300000 := by omega
  have hsl : szs (openT l) = szs (allT l) := ssort_szs _
  have hal := allT_b l
  have esum : sumI trailBytes (openT l) = held l := sumI_ssort _
  obtain ⟨d1, d2⟩ := drop_law m id
  obtain ⟨o1, o2⟩ := oldest_law (allT o)
  have olen : (openT o).length = (allT o).length := ssort_len
  have omem : ∀ t ∈ openT o, ¬ older t ((oldest (allT o)).getD zeroT) := fun t ht => o2 t (ssort_mem.1 ht)
  have rA2 : SlRep hC wa (openT l) GA := slr_auto
  have rl2 : SlRep hC wl l Gl := slr_auto
  have rm2 : SlRep hC wm m Gm := slr_auto
  have rd2 : SlRep hC wd (dropT m id) Gd := slr_auto
  have ro2 : SlRep hC wo o Gov := slr_auto
  have rx2 : SlRep hC vx ((oldest (allT o)).getD zeroT).spans Gx := slr_auto
  have bx2 : Bk hC h8.n [.int .i64 ((oldest (allT o)).getD zeroT).id, .int .i64 ((oldest (allT o)).getD zeroT).stamp, .int .i64 ((oldest (allT o)).getD zeroT).first, vx] 0 := bk_auto
  refine aw_upto (openT l).length (fun i vs h' => vs = [.int .i64 (sumI trailBytes ((openT l).take i)), .int .i64 (i : Int)] ∧ i ≤ (openT l).length ∧ h' = hC) ⟨rfl, Nat.zero_le _, rfl⟩ ?_
  rintro i vs h' _ ⟨rfl, hi, rfl⟩
  simp only [g0, g1]
  have hb := sumI_tb ((openT l).take i)
  have hle := szs_take_le (openT l) i
  refine aw_len rA2 ?_
  refine br (fun hlt => ?_) (fun hge => ?_)
  · obtain ⟨x, hx, -, htk⟩ := drop_step (show i < (openT l).length by omega)
    have hmx := szs_mem (List.mem_of_getElem? hx)
    have hxb := trailBytes_b x
    refine vs ?_
    refine aw_idx rA2 hx rfl ?_
    rintro b o_ _ Fi a ⟨v0, rfl, r0⟩ _
    (repeat' first|refine vs ?_|(refine br ?_ ?_<;>intro _<;>try(exfalso;first|omega|contradiction))|((with_reducible refine g_callf n_impl_BytesOf ?_);refine aw_rcall (s_impl_BytesOf (by omega) slr_auto) ?_)|((with_reducible refine g_idx ?_);((first|refine ix ?_|refine ixi ?_|(refine ixg ?_;intro _ _)|(refine ixgi ?_;intro _ _));first|rintro _ _ _ _ _ ⟨rfl,rfl⟩ _|rintro _ _ _ _ _ ⟨_,rfl,_⟩ _|rintro _ _ _ _ _ ⟨_,_,_,_,rfl,rfl,_,_⟩ _|intro _ _ _ _ _ _ _))|(refine sx ?_;intro _ _)|((with_reducible refine g_awp ?_);simp only [g0,g1,g2]))
    refine aw_addn (by unfold trailBytes at *; omega) (by unfold trailBytes at *; omega) ?_
    (repeat' first|refine vs ?_|(refine br ?_ ?_<;>intro _<;>try(exfalso;first|omega|contradiction))|((with_reducible refine g_idx ?_);((first|refine ix ?_|refine ixi ?_|(refine ixg ?_;intro _ _)|(refine ixgi ?_;intro _ _));first|rintro _ _ _ _ _ ⟨rfl,rfl⟩ _|rintro _ _ _ _ _ ⟨_,rfl,_⟩ _|rintro _ _ _ _ _ ⟨_,_,_,_,rfl,rfl,_,_⟩ _|intro _ _ _ _ _ _ _))|(refine sx ?_;intro _ _)|((with_reducible refine g_awp ?_);simp only [g0,g1,g2]))
    exact ⟨by omega, by rw [sumI_take _ htk]; rfl, by omega, rfl⟩
  have ei : i = (openT l).length := by omega
  subst ei
  rw [List.take_length, esum]
  clear hb hle
  refine vs ?_
  refine aw_call (s_impl_OpenTrails (l := o) (by omega) ro2) ?_
  rintro wP hD ⟨eD, GD, rD, oD⟩
  have nD := eD.1
  have hol := openT_sz o
  refine aw_upto (openT o).length (fun i vs h2 => vs = [.int .i64 (i : Int)] ∧ i ≤ (openT o).length ∧ h2 = hD) ⟨rfl, Nat.zero_le _, rfl⟩ ?_
  rintro i vs h2 _ ⟨rfl, hi, rfl⟩
  simp only [g0]
  refine aw_len rD ?_
  refine br (fun hlt => ?_) (fun hge => ?_)
  · obtain ⟨x, hx, -, htk⟩ := drop_step (show i < (openT o).length by omega)
    have hno := omem x (List.mem_of_getElem? hx)
    have e2 := bp_f hno
    refine vs ?_
    refine aw_idx rD hx rfl ?_
    rintro b o_ _ Fi a ⟨v0, rfl, r0⟩ _
    (repeat' first|refine vs ?_|(refine br ?_ ?_<;>intro _<;>try(exfalso;first|omega|contradiction))|((with_reducible refine g_callf n_impl_Older ?_);(refine aw_rcall (s_impl_Older (a := x) (b := (oldest (allT o)).getD zeroT)) ?_; rw [e2]))|((with_reducible refine g_idx ?_);((first|refine ix ?_|refine ixi ?_|(refine ixg ?_;intro _ _)|(refine ixgi ?_;intro _ _));first|rintro _ _ _ _ _ ⟨rfl,rfl⟩ _|rintro _ _ _ _ _ ⟨_,rfl,_⟩ _|rintro _ _ _ _ _ ⟨_,_,_,_,rfl,rfl,_,_⟩ _|intro _ _ _ _ _ _ _))|(refine sx ?_;intro _ _)|((with_reducible refine g_awp ?_);simp only [g0,g1,g2]))
    exact ⟨by omega, rfl, by omega, rfl⟩
  refine vs ?_
  refine aw_call (s_impl_FindTrail (l := m) (by omega) slr_auto) ?_
  rintro _ hE ⟨eE, _, GE, rfl, ⟨vE, rfl, rE⟩, oE⟩
  have nE := eE.1
  have fsz2 := dropT_sz m id
  have hft : Sz.sz (findT m id) ≤ 67108864 := by
    cases hf0 : findO m id with
    | none => rw [(find_n hf0).1]; decide
    | some z =>
      rw [(find_s hf0).1]
      have := szs_mem (findO_in hf0).1
      have h2 := allT_b m
      omega
  have o3 : (oldest (allT o)).isSome = false → (openT o).length = 0 := fun q => by
    by_cases q2 : 0 < (allT o).length
    · rw [o1.2 q2] at q; cases q
    · omega
  have dlen : (dropT m id).length = m.length := drop_len
  cases hB : findB m id <;> cases hO : (oldest (allT o)).isSome
  · have hh := d2 hB
    have h0 := o3 hO
    (repeat' first|refine vs ?_|(refine br ?_ ?_<;>intro _<;>try(exfalso;first|omega|contradiction))|((with_reducible refine g_callf n_impl_HeldBytes ?_);refine aw_rcall (s_impl_HeldBytes (l := l) (by omega) slr_auto) ?_)|((with_reducible refine g_callf n_impl_HeldBytes ?_);refine aw_rcall (s_impl_HeldBytes (l := dropT m id) (by omega) slr_auto) ?_)|((with_reducible refine g_callf n_impl_HeldBytes ?_);refine aw_rcall (s_impl_HeldBytes (l := m) (by omega) slr_auto) ?_)|((with_reducible refine g_callf n_impl_BytesOf ?_);refine aw_rcall (s_impl_BytesOf (t := findT m id) hft slr_auto) ?_)|((with_reducible refine g_idx ?_);((first|refine ix ?_|refine ixi ?_|(refine ixg ?_;intro _ _)|(refine ixgi ?_;intro _ _));first|rintro _ _ _ _ _ ⟨rfl,rfl⟩ _|rintro _ _ _ _ _ ⟨_,rfl,_⟩ _|rintro _ _ _ _ _ ⟨_,_,_,_,rfl,rfl,_,_⟩ _|intro _ _ _ _ _ _ _))|(refine sx ?_;intro _ _)|((with_reducible refine g_awp ?_);simp only [g0,g1,g2]))
    all_goals exact pb rfl
  · have hh := d2 hB
    have h0 := o1.1 hO
    (repeat' first|refine vs ?_|(refine br ?_ ?_<;>intro _<;>try(exfalso;first|omega|contradiction))|((with_reducible refine g_callf n_impl_HeldBytes ?_);refine aw_rcall (s_impl_HeldBytes (l := l) (by omega) slr_auto) ?_)|((with_reducible refine g_callf n_impl_HeldBytes ?_);refine aw_rcall (s_impl_HeldBytes (l := dropT m id) (by omega) slr_auto) ?_)|((with_reducible refine g_callf n_impl_HeldBytes ?_);refine aw_rcall (s_impl_HeldBytes (l := m) (by omega) slr_auto) ?_)|((with_reducible refine g_callf n_impl_BytesOf ?_);refine aw_rcall (s_impl_BytesOf (t := findT m id) hft slr_auto) ?_)|((with_reducible refine g_idx ?_);((first|refine ix ?_|refine ixi ?_|(refine ixg ?_;intro _ _)|(refine ixgi ?_;intro _ _));first|rintro _ _ _ _ _ ⟨rfl,rfl⟩ _|rintro _ _ _ _ _ ⟨_,rfl,_⟩ _|rintro _ _ _ _ _ ⟨_,_,_,_,rfl,rfl,_,_⟩ _|intro _ _ _ _ _ _ _))|(refine sx ?_;intro _ _)|((with_reducible refine g_awp ?_);simp only [g0,g1,g2]))
    all_goals exact pb rfl
  · have hh : held (dropT m id) = held m - sumI spanSize (findT m id).spans := d1 hB
    have hb1 : 0 ≤ held m ∧ held m ≤ 3600000 := by have := held_b m; omega
    have hb2 : 0 ≤ sumI spanSize (findT m id).spans ∧ sumI spanSize (findT m id).spans ≤ 805306368 := by have := trailBytes_b (findT m id); unfold trailBytes at this; omega
    have h0 := o3 hO
    (repeat' first|refine vs ?_|(refine br ?_ ?_<;>intro _<;>try(exfalso;first|omega|contradiction))|((with_reducible refine g_callf n_impl_HeldBytes ?_);refine aw_rcall (s_impl_HeldBytes (l := l) (by omega) slr_auto) ?_)|((with_reducible refine g_callf n_impl_HeldBytes ?_);refine aw_rcall (s_impl_HeldBytes (l := dropT m id) (by omega) slr_auto) ?_)|((with_reducible refine g_callf n_impl_HeldBytes ?_);refine aw_rcall (s_impl_HeldBytes (l := m) (by omega) slr_auto) ?_)|((with_reducible refine g_callf n_impl_BytesOf ?_);refine aw_rcall (s_impl_BytesOf (t := findT m id) hft slr_auto) ?_)|((with_reducible refine g_idx ?_);((first|refine ix ?_|refine ixi ?_|(refine ixg ?_;intro _ _)|(refine ixgi ?_;intro _ _));first|rintro _ _ _ _ _ ⟨rfl,rfl⟩ _|rintro _ _ _ _ _ ⟨_,rfl,_⟩ _|rintro _ _ _ _ _ ⟨_,_,_,_,rfl,rfl,_,_⟩ _|intro _ _ _ _ _ _ _))|(refine sx ?_;intro _ _)|((with_reducible refine g_awp ?_);simp only [g0,g1,g2]))
    all_goals exact pb rfl
  · have hh : held (dropT m id) = held m - sumI spanSize (findT m id).spans := d1 hB
    have hb1 : 0 ≤ held m ∧ held m ≤ 3600000 := by have := held_b m; omega
    have hb2 : 0 ≤ sumI spanSize (findT m id).spans ∧ sumI spanSize (findT m id).spans ≤ 805306368 := by have := trailBytes_b (findT m id); unfold trailBytes at this; omega
    have h0 := o1.1 hO
    (repeat' first|refine vs ?_|(refine br ?_ ?_<;>intro _<;>try(exfalso;first|omega|contradiction))|((with_reducible refine g_callf n_impl_HeldBytes ?_);refine aw_rcall (s_impl_HeldBytes (l := l) (by omega) slr_auto) ?_)|((with_reducible refine g_callf n_impl_HeldBytes ?_);refine aw_rcall (s_impl_HeldBytes (l := dropT m id) (by omega) slr_auto) ?_)|((with_reducible refine g_callf n_impl_HeldBytes ?_);refine aw_rcall (s_impl_HeldBytes (l := m) (by omega) slr_auto) ?_)|((with_reducible refine g_callf n_impl_BytesOf ?_);refine aw_rcall (s_impl_BytesOf (t := findT m id) hft slr_auto) ?_)|((with_reducible refine g_idx ?_);((first|refine ix ?_|refine ixi ?_|(refine ixg ?_;intro _ _)|(refine ixgi ?_;intro _ _));first|rintro _ _ _ _ _ ⟨rfl,rfl⟩ _|rintro _ _ _ _ _ ⟨_,rfl,_⟩ _|rintro _ _ _ _ _ ⟨_,_,_,_,rfl,rfl,_,_⟩ _|intro _ _ _ _ _ _ _))|(refine sx ?_;intro _ _)|((with_reducible refine g_awp ?_);simp only [g0,g1,g2]))
    all_goals exact pb rfl
end Go.Proofs.Ytpcgbddmdipfbaa
