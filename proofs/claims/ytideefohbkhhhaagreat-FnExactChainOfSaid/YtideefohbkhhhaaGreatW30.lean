
/- Worlds: for whom a task waits. -/
import Derived.Test.YtideefohbkhhhaaGreatW29
set_option linter.unusedSimpArgs false
set_option linter.unusedVariables false
set_option maxHeartbeats 8000000
namespace Go.Proofs.YtideefohbkhhhaaGreat
open Go Go.Ab
section
/- impl.WaitsFor -/
def p_impl_WaitsFor (x0 x1 : AV) : Prog := .op (.box x0) fun v1 => .op (.ldn 32 v1) fun v2 => .op (.call n_impl_WorldOk [v2]) fun v3 => .op (.una .not v3) fun v4 => .gop v4 false (.mv x1) fun v5 => .gop v4 false (.call n_impl_within [v5, AV.int .i64 0, AV.int .i64 4]) fun v6 => .gop v4 false (.una .not v6) fun v7 => .op (.pick v4 (AV.bool true) v7) fun v8 => .ite v8 (.fin [.val (AV.int .i64 (-1))]) (.op (.fad 29 v1) fun v9 => .op (.ld1 v9) fun v10 => .op (.idx 12 v10 x1) fun v11 => .op (.ldn 12 v11) fun v12 => .op (.alloc z12_f83) fun v13 => .op (.st 12 v13 v12) fun v14 => .op (.fad 8 v13) fun v15 => .op (.ld1 v15) fun v16 => .op (.fad 0 v13) fun v17 => .op (.ld1 v17) fun v18 => .op (.bin 0 .eql v18 (AV.int .i64 1)) fun v19 => .gop v19 true (.fad 1 v13) fun v20 => .gop v19 true (.ld1 v20) fun v21 => .gop v19 true (.bin 0 .eql v21 (AV.int .i64 0)) fun v22 => .op (.pick v19 v22 (AV.bool false)) fun v23 => .scope (.ite v23 (.op (.fad 2 v13) fun v24 => .op (.fad 0 v24) fun v25 => .op (.ld1 v25) fun v26 => .leaf 0 [v26]) (.op (.fad 0 v13) fun v27 => .op (.ld1 v27) fun v28 => .op (.bin 0 .eql v28 (AV.int .i64 1)) fun v29 => .gop v29 true (.fad 1 v13) fun v30 => .gop v29 true (.ld1 v30) fun v31 => .gop v29 true (.bin 0 .eql v31 (AV.int .i64 2)) fun v32 => .op (.pick v29 v32 (AV.bool false)) fun v33 => .scope (.ite v33 (.op (.fad 14 v1) fun v34 => .op (.ld1 v34) fun v35 => .op (.call n_impl_OldestOf [v35]) fun v36 => .op (.ext v36 0) fun v37 => .op (.ext v36 1) fun v38 => .op (.alloc [AV.int .i64 0, AV.int .i64 0, AV.int .i64 0, AV.nils]) fun v39 => .op (.st 4 v39 v37) fun v40 => .op (.una .not v38) fun v41 => .ite v41 (.fin [.val (AV.int .i64 (-1))]) (.op (.fad 0 v39) fun v42 => .op (.ld1 v42) fun v43 => .leaf 0 [v43])) (.op (.fad 0 v13) fun v44 => .op (.ld1 v44) fun v45 => .op (.bin 0 .eql v45 (AV.int .i64 2)) fun v46 => .gop v46 true (.fad 1 v13) fun v47 => .gop v46 true (.ld1 v47) fun v48 => .gop v46 true (.bin 0 .eql v48 (AV.int .i64 1)) fun v49 => .op (.pick v46 v49 (AV.bool false)) fun v50 => .ite v50 (.op (.fad 15 v1) fun v51 => .op (.ld1 v51) fun v52 => .fin [.val v52]) (.op (.fad 0 v13) fun v53 => .op (.ld1 v53) fun v54 => .op (.bin 0 .neq v54 (AV.int .i64 2)) fun v55 => .gop v55 false (.fad 1 v13) fun v56 => .gop v55 false (.ld1 v56) fun v57 => .gop v55 false (.bin 0 .neq v57 (AV.int .i64 0)) fun v58 => .op (.pick v55 (AV.bool true) v58) fun v59 => .ite v59 (.fin [.val (AV.int .i64 (-1))]) (.leaf 0 [v16])))) (fun vs60 => .leaf 0 [g vs60 0]) fun t61 vs60 => tsel t61 1 (.leaf 1 vs60) .bad)) (fun vs62 => .op (.fad 14 v1) fun v64 => .op (.ld1 v64) fun v65 => .op (.fad 14 v1) fun v66 => .op (.ld1 v66) fun v67 => .op (.len 0 v67) fun v68 => .op (.call n_impl_StripeOf [g vs62 0, v68]) fun v69 => .chk (.ld1 v64) v65 (.op (.idx 2 v65 v69) fun v70 => .op (.fad 0 v70) fun v71 => .op (.ld1 v71) fun v72 => .fin [.val v72])) fun t63 vs62 => tsel t63 1 (.leaf 1 vs62) .bad)
theorem c_impl_WaitsFor (x0 x1 : AV) : CC Tryz.prog n_impl_WaitsFor [x0, x1] (p_impl_WaitsFor x0 x1) := cc Tryz.func17 [2, 6] (fun r => if r = 16 then [(0, []), (1, []), (2, []), (3, []), (4, []), (5, []), (6, [1]), (7, []), (8, []), (9, []), (10, [])] else []) (by kernel_rfl)
/- spec.WaitsFor -/
abbrev q_spec_WaitsFor_1 (v52 : AV) (v51 : AV) (v48 : AV) (v49 : AV) : Prog := .op (.ld1 v52) fun v53 => .op (.len 0 v53) fun v54 => .op (.call n_spec_StripeOf [v51, v54]) fun v55 => .chk (.ld1 v48) v49 (.op (.idx 2 v49 v55) fun v56 => .op (.fad 0 v56) fun v57 => .op (.ld1 v57) fun v58 => .fin [.val v58])
abbrev q_spec_WaitsFor_2 (v70 : AV) (v69 : AV) (v66 : AV) (v67 : AV) : Prog := .op (.ld1 v70) fun v71 => .op (.len 0 v71) fun v72 => .op (.call n_spec_StripeOf [v69, v72]) fun v73 => .chk (.ld1 v66) v67 (.op (.idx 2 v67 v73) fun v74 => .op (.fad 0 v74) fun v75 => .op (.ld1 v75) fun v76 => .fin [.val v76])
abbrev q_spec_WaitsFor_3 (v17 : AV) (v20 : AV) (v1 : AV) (v13 : AV) : Prog := .op (.pick v17 v20 (AV.bool false)) fun v21 => .ite v21 (.op (.fad 14 v1) fun v22 => .op (.ld1 v22) fun v23 => .op (.fad 2 v13) fun v24 => .op (.fad 0 v24) fun v25 => .op (.ld1 v25) fun v26 => .op (.fad 14 v1) fun v27 => .op (.ld1 v27) fun v28 => .op (.len 0 v28) fun v29 => .op (.call n_spec_StripeOf [v26, v29]) fun v30 => .chk (.ld1 v22) v23 (.op (.idx 2 v23 v30) fun v31 => .op (.fad 0 v31) fun v32 => .op (.ld1 v32) fun v33 => .fin [.val v33])) (.op (.fad 0 v13) fun v34 => .op (.ld1 v34) fun v35 => .op (.bin 0 .eql v35 (AV.int .i64 1)) fun v36 => .gop v36 true (.fad 1 v13) fun v37 => .gop v36 true (.ld1 v37) fun v38 => .gop v36 true (.bin 0 .eql v38 (AV.int .i64 2)) fun v39 => .op (.pick v36 v39 (AV.bool false)) fun v40 => .scope (.ite v40 (.op (.fad 14 v1) fun v41 => .op (.ld1 v41) fun v42 => .op (.call n_spec_OldestOf [v42]) fun v43 => .op (.ext v43 0) fun v44 => .op (.ext v43 1) fun v45 => .op (.alloc [AV.int .i64 0, AV.int .i64 0, AV.int .i64 0, AV.nils]) fun v46 => .op (.st 4 v46 v44) fun v47 => .ite v45 (.op (.fad 14 v1) fun v48 => .op (.ld1 v48) fun v49 => .op (.fad 0 v46) fun v50 => .op (.ld1 v50) fun v51 => .op (.fad 14 v1) fun v52 => q_spec_WaitsFor_1 v52 v51 v48 v49) (.leaf 0 [])) (.op (.fad 0 v13) fun v59 => .op (.ld1 v59) fun v60 => .op (.bin 0 .eql v60 (AV.int .i64 2)) fun v61 => .gop v61 true (.fad 1 v13) fun v62 => .gop v61 true (.ld1 v62) fun v63 => .gop v61 true (.bin 0 .eql v63 (AV.int .i64 0)) fun v64 => .op (.pick v61 v64 (AV.bool false)) fun v65 => .ite v65 (.op (.fad 14 v1) fun v66 => .op (.ld1 v66) fun v67 => .op (.fad 8 v13) fun v68 => .op (.ld1 v68) fun v69 => .op (.fad 14 v1) fun v70 => q_spec_WaitsFor_2 v70 v69 v66 v67) (.op (.fad 0 v13) fun v77 => .op (.ld1 v77) fun v78 => .op (.bin 0 .eql v78 (AV.int .i64 2)) fun v79 => .gop v79 true (.fad 1 v13) fun v80 => .gop v79 true (.ld1 v80) fun v81 => .gop v79 true (.bin 0 .eql v81 (AV.int .i64 1)) fun v82 => .op (.pick v79 v82 (AV.bool false)) fun v83 => .ite v83 (.op (.fad 15 v1) fun v84 => .op (.ld1 v84) fun v85 => .fin [.val v85]) (.leaf 0 [])))) (fun vs86 => .fin [.val (AV.int .i64 (-1))]) fun t87 vs86 => tsel t87 1 (.leaf 1 vs86) .bad)
def p_spec_WaitsFor (x0 x1 : AV) : Prog := .op (.box x0) fun v1 => .op (.ldn 32 v1) fun v2 => .op (.call n_spec_WorldOk [v2]) fun v3 => .op (.una .not v3) fun v4 => .gop v4 false (.mv x1) fun v5 => .gop v4 false (.call n_spec_l1In [v5, AV.int .i64 0, AV.int .i64 4]) fun v6 => .gop v4 false (.una .not v6) fun v7 => .op (.pick v4 (AV.bool true) v7) fun v8 => .ite v8 (.fin [.val (AV.int .i64 (-1))]) (.op (.fad 29 v1) fun v9 => .op (.ld1 v9) fun v10 => .op (.idx 12 v10 x1) fun v11 => .op (.ldn 12 v11) fun v12 => .op (.alloc z12_f83) fun v13 => .op (.st 12 v13 v12) fun v14 => .op (.fad 0 v13) fun v15 => .op (.ld1 v15) fun v16 => .op (.bin 0 .eql v16 (AV.int .i64 1)) fun v17 => .gop v17 true (.fad 1 v13) fun v18 => .gop v17 true (.ld1 v18) fun v19 => .gop v17 true (.bin 0 .eql v19 (AV.int .i64 0)) fun v20 => q_spec_WaitsFor_3 v17 v20 v1 v13)
theorem c_spec_WaitsFor (x0 x1 : AV) : CC Tryz.prog n_spec_WaitsFor [x0, x1] (p_spec_WaitsFor x0 x1) := cc Tryz.func16 [] (fun r => if r = 5 then [(0, []), (1, []), (2, []), (3, []), (4, []), (5, []), (6, []), (7, []), (8, [1]), (9, []), (10, []), (11, []), (12, [])] else if r = 9 then [(0, []), (1, []), (2, []), (3, []), (4, []), (5, []), (6, []), (7, [1]), (8, []), (9, []), (10, []), (11, [])] else if r = 11 then [(0, []), (1, []), (2, []), (3, []), (4, []), (5, []), (6, []), (7, [1]), (8, []), (9, []), (10, []), (11, [])] else []) (by kernel_rfl)
end
def heldAt (x : Wld) (trace : Int) : Int := match x.st[(stripe trace x.st.length).toNat]? with
  | some s => s.held
  | none => -1
theorem heldAt_s {x : Wld} {trace : Int} {s : Stripe} (h : x.st[(stripe trace x.st.length).toNat]? = some s) : heldAt x trace = s.held := by unfold heldAt; rw [h]
noncomputable def waitsT (x : Wld) (t : Task) : Int :=
  if t.op = 1 ∧ t.pc = 0 then heldAt x t.s.trace
  else if t.op = 1 ∧ t.pc = 2 then (match oldest (allT x.st) with | some o => heldAt x o.id | none => -1)
  else if t.op = 2 ∧ t.pc = 0 then heldAt x t.trace
  else if t.op = 2 ∧ t.pc = 1 then x.ruleHeld else -1
noncomputable def waits (x : Wld) (k : Int) : Int := if bp (worldOk x ∧ (0 ≤ k ∧ k ≤ 4)) = true then (match x.tasks[k.toNat]? with | some t => waitsT x t | none => -1) else -1
theorem waits_n {x : Wld} {k : Int} (h : ¬ (worldOk x ∧ (0 ≤ k ∧ k ≤ 4))) : waits x k = -1 := by unfold waits; rw [bp_f h]; rfl
theorem waits_y {x : Wld} {k : Int} {t : Task} (h : worldOk x ∧ (0 ≤ k ∧ k ≤ 4)) (ht : x.tasks[k.toNat]? = some t) : waits x k = waitsT x t := by unfold waits; rw [bp_t h, if_pos rfl, ht]
theorem waits_b (x : Wld) (k : Int) : -1 ≤ waits x k := by
  by_cases hw : worldOk x ∧ (0 ≤ k ∧ k ≤ 4)
  · have hst := hw.1.1.2.2.2.1
    have hat : ∀ tr, -1 ≤ heldAt x tr := fun tr => by
      unfold heldAt
      rcases e : x.st[(stripe tr x.st.length).toNat]? with _ | s
      · simp only; omega
      · exact (hst.2 _ s e).1.1
    have hr := (world_iff.2 hw.1).1.2.1.1
    unfold waits
    rw [bp_t hw, if_pos rfl]
    rcases e : x.tasks[k.toNat]? with _ | t
    · simp only; omega
    · simp only
      unfold waitsT
      split
      · exact hat _
      · split
        · rcases oldest (allT x.st) with _ | o
          · simp only; omega
          · exact hat _
        · split
          · exact hat _
          · split
            · exact hr
            · omega
  · rw [waits_n hw]; omega
theorem nx_n {P : Program} {f : FuncId} {a : List AV} {h : AH} {l : List Stripe} (ho : oldest (allT l) = none) (k : ACalls P f a h (NewXB Trail h ((oldest (allT l)).getD zeroT) (oldest (allT l)).isSome)) : ACalls P f a h (NewXB Trail h zeroT false) := by
  rw [ho] at k; exact k
theorem nx_s {P : Program} {f : FuncId} {a : List AV} {h : AH} {l : List Stripe} {o : Trail} (ho : oldest (allT l) = some o) (k : ACalls P f a h (NewXB Trail h ((oldest (allT l)).getD zeroT) (oldest (allT l)).isSome)) : ACalls P f a h (NewXB Trail h o true) := by
  rw [ho] at k; exact k
theorem s_impl_WaitsFor {h : AH} {x : Wld} {cs : List AV} {F : List Nat} {k : Int} (ok : Cel.ok x) (hs : Sz.sz x ≤ 67108864) (r : Cel.rep h x cs F) :
    RCalls Tryz.prog n_impl_WaitsFor [.agg cs, .int .i64 k] h (.int .i64 (waits x k)) := by
  have hs0 := hs
  obtain ⟨v0, v1, v2, v3, v4, v5, v6, v7, v8, v9, v10, F0, F1, F2, F3, F4, F5, F6, F7, F8, F9, F10, rfl, rfl, r0, r1, r2, r3, r4, r5, r6, r7, r8, r9, r10⟩ := r
  have hs : Sz.sz x.c + (x.st.length + szs x.st) + (x.cache.length + szs x.cache) + Sz.sz x.w + (x.due.length + szs x.due) + (x.queue.length + szs x.queue) + (x.out.length + szs x.out) + (x.tasks.length + szs x.tasks) + (x.deeds.length + szs x.deeds) ≤ 67108864 := hs
  have hl1 := r1.small
  have hl9 := r9.small
  refine reader (c_impl_WaitsFor _ _) (by simp only [old]) ?_
  unfold p_impl_WaitsFor
  by_cases hw : worldOk x ∧ (0 ≤ k ∧ k ≤ 4)
  · have h5 := hw.1.2.1
    have hst := hw.1.1.2.2.2.1.1
    obtain ⟨t, ht, -, -⟩ := drop_step (show k.toNat < x.tasks.length by omega)
    have b1 := stripe_b (t := t.s.trace) (n := x.st.length) (by omega)
    have b2 := stripe_b (t := t.trace) (n := x.st.length) (by omega)
    rw [waits_y hw ht]
    rcases ho : oldest (allT x.st) with _ | o
    · (repeat' first|refine vs ?_|(refine br ?_ ?_<;>intro _<;>try(exfalso;first|omega|contradiction))|((with_reducible refine g_callf n_impl_WorldOk ?_);(refine aw_rcall_b (s_impl_WorldOk (x := x) ok hs0 ⟨_, _, _, _, _, _, _, _, _, _, _, _, _, _, _, _, _, _, _, _, _, _, rfl, rfl, slr_auto, slr_auto, slr_auto, slr_auto, slr_auto, slr_auto, slr_auto, slr_auto, slr_auto, slr_auto, slr_auto⟩) ?_ ?_ <;> intro hn <;> first | replace hn := bp_true hn | replace hn := bp_false hn))|((with_reducible refine g_callf n_impl_within ?_);(refine aw_rcall_b (s_impl_within) ?_ ?_ <;> intro hb <;> (first | replace hb := inB_t hb | replace hb := inB_f hb)))|((with_reducible refine g_callf n_impl_OldestOf ?_);(refine aw_call (nx_n ho (s_impl_OldestOf (l := x.st) om_auto slr_auto)) ?_; rintro _ _ ⟨e_, _, _, rfl, ⟨_, rfl, _⟩, _⟩; have n_ := e_.1; (try simp only [push_n, upd_n] at n_)))|((with_reducible refine g_callf n_impl_StripeOf ?_);refine aw_rcall s_impl_StripeOf ?_)|((with_reducible refine g_idx ?_);((first|refine ix ?_|refine ixi ?_|(refine ixg ?_;intro _ _)|(refine ixgi ?_;intro _ _));first|rintro _ _ _ _ _ ⟨rfl,rfl⟩ _|rintro _ _ _ _ _ ⟨_,rfl,_⟩ _|rintro _ _ _ _ _ ⟨_,_,_,_,rfl,rfl,_,_⟩ _|intro _ _ _ _ _ _ _))|(refine sx ?_;intro _ _)|((with_reducible refine g_awp ?_);simp only [g0,g1,g2]))
      all_goals first
        | (exfalso; first | omega | exact absurd hw.1 (by assumption))
        | skip
      all_goals
        refine pi ?_
        unfold waitsT
        simp only [ho]
        first
          | (rw [if_pos (by omega)]; exact (heldAt_s (by assumption)).symm)
          | (rw [if_neg (by omega), if_pos (by omega)]; done)
          | (rw [if_neg (by omega), if_neg (by omega), if_pos (by omega)]; exact (heldAt_s (by assumption)).symm)
          | (rw [if_neg (by omega), if_neg (by omega), if_neg (by omega), if_pos (by omega)]; done)
          | (rw [if_neg (by omega), if_neg (by omega), if_neg (by omega), if_neg (by omega)]; done)
    · have b3 := stripe_b (t := o.id) (n := x.st.length) (by omega)
      (repeat' first|refine vs ?_|(refine br ?_ ?_<;>intro _<;>try(exfalso;first|omega|contradiction))|((with_reducible refine g_callf n_impl_WorldOk ?_);(refine aw_rcall_b (s_impl_WorldOk (x := x) ok hs0 ⟨_, _, _, _, _, _, _, _, _, _, _, _, _, _, _, _, _, _, _, _, _, _, rfl, rfl, slr_auto, slr_auto, slr_auto, slr_auto, slr_auto, slr_auto, slr_auto, slr_auto, slr_auto, slr_auto, slr_auto⟩) ?_ ?_ <;> intro hn <;> first | replace hn := bp_true hn | replace hn := bp_false hn))|((with_reducible refine g_callf n_impl_within ?_);(refine aw_rcall_b (s_impl_within) ?_ ?_ <;> intro hb <;> (first | replace hb := inB_t hb | replace hb := inB_f hb)))|((with_reducible refine g_callf n_impl_OldestOf ?_);(refine aw_call (nx_s ho (s_impl_OldestOf (l := x.st) om_auto slr_auto)) ?_; rintro _ _ ⟨e_, _, _, rfl, ⟨_, rfl, _⟩, _⟩; have n_ := e_.1; (try simp only [push_n, upd_n] at n_)))|((with_reducible refine g_callf n_impl_StripeOf ?_);refine aw_rcall s_impl_StripeOf ?_)|((with_reducible refine g_idx ?_);((first|refine ix ?_|refine ixi ?_|(refine ixg ?_;intro _ _)|(refine ixgi ?_;intro _ _));first|rintro _ _ _ _ _ ⟨rfl,rfl⟩ _|rintro _ _ _ _ _ ⟨_,rfl,_⟩ _|rintro _ _ _ _ _ ⟨_,_,_,_,rfl,rfl,_,_⟩ _|intro _ _ _ _ _ _ _))|(refine sx ?_;intro _ _)|((with_reducible refine g_awp ?_);simp only [g0,g1,g2]))
      all_goals first
        | (exfalso; first | omega | exact absurd hw.1 (by assumption))
        | skip
      all_goals
        refine pi ?_
        unfold waitsT
        simp only [ho]
        first
          | (rw [if_pos (by omega)]; exact (heldAt_s (by assumption)).symm)
          | (rw [if_neg (by omega), if_pos (by omega)]; exact (heldAt_s (by assumption)).symm)
          | (rw [if_neg (by omega), if_neg (by omega), if_pos (by omega)]; exact (heldAt_s (by assumption)).symm)
          | (rw [if_neg (by omega), if_neg (by omega), if_neg (by omega), if_pos (by omega)]; done)
          | (rw [if_neg (by omega), if_neg (by omega), if_neg (by omega), if_neg (by omega)]; done)
  · rw [waits_n hw]
    (repeat' first|refine vs ?_|(refine br ?_ ?_<;>intro _<;>try(exfalso;first|omega|contradiction))|((with_reducible refine g_callf n_impl_WorldOk ?_);(refine aw_rcall_b (s_impl_WorldOk (x := x) ok hs0 ⟨_, _, _, _, _, _, _, _, _, _, _, _, _, _, _, _, _, _, _, _, _, _, rfl, rfl, slr_auto, slr_auto, slr_auto, slr_auto, slr_auto, slr_auto, slr_auto, slr_auto, slr_auto, slr_auto, slr_auto⟩) ?_ ?_ <;> intro hn <;> first | replace hn := bp_true hn | replace hn := bp_false hn))|((with_reducible refine g_callf n_impl_within ?_);(refine aw_rcall_b (s_impl_within) ?_ ?_ <;> intro hb <;> (first | replace hb := inB_t hb | replace hb := inB_f hb)))|((with_reducible refine g_idx ?_);((first|refine ix ?_|refine ixi ?_|(refine ixg ?_;intro _ _)|(refine ixgi ?_;intro _ _));first|rintro _ _ _ _ _ ⟨rfl,rfl⟩ _|rintro _ _ _ _ _ ⟨_,rfl,_⟩ _|rintro _ _ _ _ _ ⟨_,_,_,_,rfl,rfl,_,_⟩ _|intro _ _ _ _ _ _ _))|(refine sx ?_;intro _ _)|((with_reducible refine g_awp ?_);simp only [g0,g1,g2]))
    all_goals first
      | exact pi rfl
      | exact absurd ⟨by assumption, by omega⟩ hw
theorem s_spec_WaitsFor {h : AH} {x : Wld} {cs : List AV} {F : List Nat} {k : Int} (ok : Cel.ok x) (hs : Sz.sz x ≤ 67108864) (r : Cel.rep h x cs F) :
    RCalls Tryz.prog n_spec_WaitsFor [.agg cs, .int .i64 k] h (.int .i64 (waits x k)) := by
  have hs0 := hs
  obtain ⟨v0, v1, v2, v3, v4, v5, v6, v7, v8, v9, v10, F0, F1, F2, F3, F4, F5, F6, F7, F8, F9, F10, rfl, rfl, r0, r1, r2, r3, r4, r5, r6, r7, r8, r9, r10⟩ := r
  have hs : Sz.sz x.c + (x.st.length + szs x.st) + (x.cache.length + szs x.cache) + Sz.sz x.w + (x.due.length + szs x.due) + (x.queue.length + szs x.queue) + (x.out.length + szs x.out) + (x.tasks.length + szs x.tasks) + (x.deeds.length + szs x.deeds) ≤ 67108864 := hs
  have hl1 := r1.small
  have hl9 := r9.small
  refine reader (c_spec_WaitsFor _ _) (by simp only [old]) ?_
  unfold p_spec_WaitsFor
  by_cases hw : worldOk x ∧ (0 ≤ k ∧ k ≤ 4)
  · have h5 := hw.1.2.1
    have hst := hw.1.1.2.2.2.1.1
    obtain ⟨t, ht, -, -⟩ := drop_step (show k.toNat < x.tasks.length by omega)
    have b1 := stripe_b (t := t.s.trace) (n := x.st.length) (by omega)
    have b2 := stripe_b (t := t.trace) (n := x.st.length) (by omega)
    rw [waits_y hw ht]
    rcases ho : oldest (allT x.st) with _ | o
    · (repeat' first|refine vs ?_|(refine br ?_ ?_<;>intro _<;>try(exfalso;first|omega|contradiction))|((with_reducible refine g_callf n_spec_WorldOk ?_);(refine aw_rcall_b (s_spec_WorldOk (x := x) ok hs0 ⟨_, _, _, _, _, _, _, _, _, _, _, _, _, _, _, _, _, _, _, _, _, _, rfl, rfl, slr_auto, slr_auto, slr_auto, slr_auto, slr_auto, slr_auto, slr_auto, slr_auto, slr_auto, slr_auto, slr_auto⟩) ?_ ?_ <;> intro hn <;> first | replace hn := bp_true hn | replace hn := bp_false hn))|((with_reducible refine g_callf n_spec_l1In ?_);(refine aw_rcall_b (s_spec_l1In) ?_ ?_ <;> intro hb <;> (first | replace hb := inB_t hb | replace hb := inB_f hb)))|((with_reducible refine g_callf n_spec_OldestOf ?_);(refine aw_call (nx_n ho (s_spec_OldestOf (l := x.st) om_auto slr_auto)) ?_; rintro _ _ ⟨e_, _, _, rfl, ⟨_, rfl, _⟩, _⟩; have n_ := e_.1; (try simp only [push_n, upd_n] at n_)))|((with_reducible refine g_callf n_spec_StripeOf ?_);refine aw_rcall s_spec_StripeOf ?_)|((with_reducible refine g_idx ?_);((first|refine ix ?_|refine ixi ?_|(refine ixg ?_;intro _ _)|(refine ixgi ?_;intro _ _));first|rintro _ _ _ _ _ ⟨rfl,rfl⟩ _|rintro _ _ _ _ _ ⟨_,rfl,_⟩ _|rintro _ _ _ _ _ ⟨_,_,_,_,rfl,rfl,_,_⟩ _|intro _ _ _ _ _ _ _))|(refine sx ?_;intro _ _)|((with_reducible refine g_awp ?_);simp only [g0,g1,g2]))
      all_goals first
        | (exfalso; first | omega | exact absurd hw.1 (by assumption))
        | skip
      all_goals
        refine pi ?_
        unfold waitsT
        simp only [ho]
        first
          | (rw [if_pos (by omega)]; exact (heldAt_s (by assumption)).symm)
          | (rw [if_neg (by omega), if_pos (by omega)]; done)
          | (rw [if_neg (by omega), if_neg (by omega), if_pos (by omega)]; exact (heldAt_s (by assumption)).symm)
          | (rw [if_neg (by omega), if_neg (by omega), if_neg (by omega), if_pos (by omega)]; done)
          | (rw [if_neg (by omega), if_neg (by omega), if_neg (by omega), if_neg (by omega)]; done)
    · have b3 := stripe_b (t := o.id) (n := x.st.length) (by omega)
      (repeat' first|refine vs ?_|(refine br ?_ ?_<;>intro _<;>try(exfalso;first|omega|contradiction))|((with_reducible refine g_callf n_spec_WorldOk ?_);(refine aw_rcall_b (s_spec_WorldOk (x := x) ok hs0 ⟨_, _, _, _, _, _, _, _, _, _, _, _, _, _, _, _, _, _, _, _, _, _, rfl, rfl, slr_auto, slr_auto, slr_auto, slr_auto, slr_auto, slr_auto, slr_auto, slr_auto, slr_auto, slr_auto, slr_auto⟩) ?_ ?_ <;> intro hn <;> first | replace hn := bp_true hn | replace hn := bp_false hn))|((with_reducible refine g_callf n_spec_l1In ?_);(refine aw_rcall_b (s_spec_l1In) ?_ ?_ <;> intro hb <;> (first | replace hb := inB_t hb | replace hb := inB_f hb)))|((with_reducible refine g_callf n_spec_OldestOf ?_);(refine aw_call (nx_s ho (s_spec_OldestOf (l := x.st) om_auto slr_auto)) ?_; rintro _ _ ⟨e_, _, _, rfl, ⟨_, rfl, _⟩, _⟩; have n_ := e_.1; (try simp only [push_n, upd_n] at n_)))|((with_reducible refine g_callf n_spec_StripeOf ?_);refine aw_rcall s_spec_StripeOf ?_)|((with_reducible refine g_idx ?_);((first|refine ix ?_|refine ixi ?_|(refine ixg ?_;intro _ _)|(refine ixgi ?_;intro _ _));first|rintro _ _ _ _ _ ⟨rfl,rfl⟩ _|rintro _ _ _ _ _ ⟨_,rfl,_⟩ _|rintro _ _ _ _ _ ⟨_,_,_,_,rfl,rfl,_,_⟩ _|intro _ _ _ _ _ _ _))|(refine sx ?_;intro _ _)|((with_reducible refine g_awp ?_);simp only [g0,g1,g2]))
      all_goals first
        | (exfalso; first | omega | exact absurd hw.1 (by assumption))
        | skip
      all_goals
        refine pi ?_
        unfold waitsT
        simp only [ho]
        first
          | (rw [if_pos (by omega)]; exact (heldAt_s (by assumption)).symm)
          | (rw [if_neg (by omega), if_pos (by omega)]; exact (heldAt_s (by assumption)).symm)
          | (rw [if_neg (by omega), if_neg (by omega), if_pos (by omega)]; exact (heldAt_s (by assumption)).symm)
          | (rw [if_neg (by omega), if_neg (by omega), if_neg (by omega), if_pos (by omega)]; done)
          | (rw [if_neg (by omega), if_neg (by omega), if_neg (by omega), if_neg (by omega)]; done)
  · rw [waits_n hw]
    (repeat' first|refine vs ?_|(refine br ?_ ?_<;>intro _<;>try(exfalso;first|omega|contradiction))|((with_reducible refine g_callf n_spec_WorldOk ?_);(refine aw_rcall_b (s_spec_WorldOk (x := x) ok hs0 ⟨_, _, _, _, _, _, _, _, _, _, _, _, _, _, _, _, _, _, _, _, _, _, rfl, rfl, slr_auto, slr_auto, slr_auto, slr_auto, slr_auto, slr_auto, slr_auto, slr_auto, slr_auto, slr_auto, slr_auto⟩) ?_ ?_ <;> intro hn <;> first | replace hn := bp_true hn | replace hn := bp_false hn))|((with_reducible refine g_callf n_spec_l1In ?_);(refine aw_rcall_b (s_spec_l1In) ?_ ?_ <;> intro hb <;> (first | replace hb := inB_t hb | replace hb := inB_f hb)))|((with_reducible refine g_idx ?_);((first|refine ix ?_|refine ixi ?_|(refine ixg ?_;intro _ _)|(refine ixgi ?_;intro _ _));first|rintro _ _ _ _ _ ⟨rfl,rfl⟩ _|rintro _ _ _ _ _ ⟨_,rfl,_⟩ _|rintro _ _ _ _ _ ⟨_,_,_,_,rfl,rfl,_,_⟩ _|intro _ _ _ _ _ _ _))|(refine sx ?_;intro _ _)|((with_reducible refine g_awp ?_);simp only [g0,g1,g2]))
    all_goals first
      | exact pi rfl
      | exact absurd ⟨by assumption, by omega⟩ hw
end Go.Proofs.YtideefohbkhhhaaGreat
