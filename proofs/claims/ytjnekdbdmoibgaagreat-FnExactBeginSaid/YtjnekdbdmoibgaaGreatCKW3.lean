import Derived.Test.YtjnekdbdmoibgaaGreatCKW1
import Derived.Test.YtjnekdbdmoibgaaGreatCW16
import Derived.Test.YtjnekdbdmoibgaaGreatCKW2
import Derived.Test.YtjnekdbdmoibgaaGreatCW9
section
/- Worlds: the deeds of tasks, and the values that may be. -/
set_option linter.unusedSimpArgs false
set_option linter.unusedVariables false
set_option maxHeartbeats 8000000
namespace Go.Proofs.YtjnekdbdmoibgaaGreat
open Go Go.Ab
section
/- impl.deedOfTask -/
def p_impl_deedOfTask (x0 x1 : AV) : Prog := .op (.box x0) fun v1 => .op (.fad 29 v1) fun v2 => .op (.ld1 v2) fun v3 => .op (.idx 12 v3 x1) fun v4 => .op (.ldn 12 v4) fun v5 => .op (.alloc z12_f83) fun v6 => .op (.st 12 v6 v5) fun v7 => .op (.fad 11 v6) fun v8 => .op (.ld1 v8) fun v9 => .op (.fad 30 v1) fun v10 => .op (.ld1 v10) fun v11 => .op (.len 0 v11) fun v12 => .op (.bin 0 .geq v9 v12) fun v13 => .ite v13 (.fin [.val (AV.bool false)]) (.op (.fad 30 v1) fun v14 => .op (.ld1 v14) fun v15 => .op (.fad 11 v6) fun v16 => .op (.ld1 v16) fun v17 => .op (.idx 20 v15 v17) fun v18 => .op (.ldn 20 v18) fun v19 => .op (.alloc z20_1ff) fun v20 => .op (.st 20 v20 v19) fun v21 => .op (.fad 0 v20) fun v22 => .op (.ld1 v22) fun v23 => .op (.bin 0 .eql v23 (AV.int .i64 1)) fun v24 => .gop v24 true (.fad 2 v20) fun v25 => .gop v24 true (.ldn 6 v25) fun v26 => .gop v24 true (.fad 2 v6) fun v27 => .gop v24 true (.ldn 6 v27) fun v28 => .gop v24 true (.call n_impl_SameSpan [v26, v28]) fun v29 => .op (.pick v24 v29 (AV.bool false)) fun v30 => .op (.fad 0 v6) fun v31 => .op (.ld1 v31) fun v32 => .op (.bin 0 .eql v32 (AV.int .i64 2)) fun v33 => .scope (.ite v33 (.op (.fad 0 v20) fun v34 => .op (.ld1 v34) fun v35 => .op (.bin 0 .eql v35 (AV.int .i64 2)) fun v36 => .gop v36 true (.fad 8 v20) fun v37 => .gop v36 true (.ld1 v37) fun v38 => .gop v36 true (.fad 8 v6) fun v39 => .gop v36 true (.ld1 v39) fun v40 => .gop v36 true (.bin 0 .eql v38 v40) fun v41 => .op (.pick v36 v41 (AV.bool false)) fun v42 => .gop v42 true (.fad 9 v20) fun v43 => .gop v42 true (.ld1 v43) fun v44 => .gop v42 true (.fad 9 v6) fun v45 => .gop v42 true (.ld1 v45) fun v46 => .gop v42 true (.bin 0 .eql v44 v46) fun v47 => .op (.pick v42 v47 (AV.bool false)) fun v48 => .leaf 0 [v48]) (.leaf 0 [v30])) (fun vs49 => .gop (g vs49 0) true (.fad 1 v20) fun v51 => .gop (g vs49 0) true (.ld1 v51) fun v52 => .gop (g vs49 0) true (.mv x1) fun v53 => .gop (g vs49 0) true (.bin 0 .eql v52 v53) fun v54 => .op (.pick (g vs49 0) v54 (AV.bool false)) fun v55 => .gop v55 true (.fad 19 v20) fun v56 => .gop v55 true (.ld1 v56) fun v57 => .gop v55 true (.bin 0 .eql v57 (AV.int .i64 (-1))) fun v58 => .op (.pick v55 v58 (AV.bool false)) fun v59 => .gop v59 true (.fad 18 v20) fun v60 => .gop v59 true (.ld1 v60) fun v61 => .gop v59 true (.bin 0 .neq v61 (AV.int .i64 (-1))) fun v62 => .gop v59 true (.fad 0 v6) fun v63 => .gop v59 true (.ld1 v63) fun v64 => .gop v59 true (.bin 0 .eql v64 (AV.int .i64 2)) fun v65 => .gop v59 true (.mv v65) fun v66 => .gop v66 true (.fad 1 v6) fun v67 => .gop v66 true (.ld1 v67) fun v68 => .gop v66 true (.bin 0 .eql v68 (AV.int .i64 3)) fun v69 => .gop v59 true (.pick v66 v69 (AV.bool false)) fun v70 => .gop v59 true (.bin 2 .eql v62 v70) fun v71 => .op (.pick v59 v71 (AV.bool false)) fun v72 => .fin [.val v72]) fun t50 vs49 => tsel t50 1 (.leaf 1 vs49) .bad)
theorem c_impl_deedOfTask (x0 x1 : AV) : CC Tryz.prog n_impl_deedOfTask [x0, x1] (p_impl_deedOfTask x0 x1) := cc Tryz.func221 [1, 5, 6, 7] (fun _ => []) (by kernel_rfl)
/- spec.l16Deed -/
def p_spec_l16Deed (x0 x1 : AV) : Prog := .op (.box x0) fun v1 => .op (.fad 29 v1) fun v2 => .op (.ld1 v2) fun v3 => .op (.idx 12 v3 x1) fun v4 => .op (.ldn 12 v4) fun v5 => .op (.alloc z12_f83) fun v6 => .op (.st 12 v6 v5) fun v7 => .op (.fad 0 v6) fun v8 => .op (.ld1 v8) fun v9 => .op (.bin 0 .eql v9 (AV.int .i64 0)) fun v10 => .ite v10 (.fin [.val (AV.bool true)]) (.op (.fad 11 v6) fun v11 => .op (.ld1 v11) fun v12 => .op (.fad 30 v1) fun v13 => .op (.ld1 v13) fun v14 => .op (.len 0 v14) fun v15 => .op (.bin 0 .geq v12 v15) fun v16 => .ite v16 (.fin [.val (AV.bool false)]) (.op (.fad 30 v1) fun v17 => .op (.ld1 v17) fun v18 => .op (.fad 11 v6) fun v19 => .op (.ld1 v19) fun v20 => .op (.idx 20 v18 v20) fun v21 => .op (.ldn 20 v21) fun v22 => .op (.alloc z20_1ff) fun v23 => .op (.st 20 v23 v22) fun v24 => .op (.fad 1 v23) fun v25 => .op (.ld1 v25) fun v26 => .op (.bin 0 .neq v26 x1) fun v27 => .gop v27 false (.fad 19 v23) fun v28 => .gop v27 false (.ld1 v28) fun v29 => .gop v27 false (.bin 0 .neq v29 (AV.int .i64 (-1))) fun v30 => .op (.pick v27 (AV.bool true) v30) fun v31 => .gop v31 false (.fad 18 v23) fun v32 => .gop v31 false (.ld1 v32) fun v33 => .gop v31 false (.bin 0 .neq v33 (AV.int .i64 (-1))) fun v34 => .gop v31 false (.fad 0 v6) fun v35 => .gop v31 false (.ld1 v35) fun v36 => .gop v31 false (.bin 0 .eql v36 (AV.int .i64 2)) fun v37 => .gop v31 false (.mv v37) fun v38 => .gop v38 true (.fad 1 v6) fun v39 => .gop v38 true (.ld1 v39) fun v40 => .gop v38 true (.bin 0 .eql v40 (AV.int .i64 3)) fun v41 => .gop v31 false (.pick v38 v41 (AV.bool false)) fun v42 => .gop v31 false (.bin 2 .neq v34 v42) fun v43 => .op (.pick v31 (AV.bool true) v43) fun v44 => .ite v44 (.fin [.val (AV.bool false)]) (.op (.fad 0 v6) fun v45 => .op (.ld1 v45) fun v46 => .op (.bin 0 .eql v46 (AV.int .i64 1)) fun v47 => .ite v47 (.op (.fad 0 v23) fun v48 => .op (.ld1 v48) fun v49 => .op (.bin 0 .eql v49 (AV.int .i64 1)) fun v50 => .gop v50 true (.fad 2 v23) fun v51 => .gop v50 true (.ldn 6 v51) fun v52 => .gop v50 true (.fad 2 v6) fun v53 => .gop v50 true (.ldn 6 v53) fun v54 => .gop v50 true (.call n_spec_SameSpan [v52, v54]) fun v55 => .op (.pick v50 v55 (AV.bool false)) fun v56 => .fin [.val v56]) (.op (.fad 0 v23) fun v57 => .op (.ld1 v57) fun v58 => .op (.bin 0 .eql v58 (AV.int .i64 2)) fun v59 => .gop v59 true (.fad 8 v23) fun v60 => .gop v59 true (.ld1 v60) fun v61 => .gop v59 true (.fad 8 v6) fun v62 => .gop v59 true (.ld1 v62) fun v63 => .gop v59 true (.bin 0 .eql v61 v63) fun v64 => .op (.pick v59 v64 (AV.bool false)) fun v65 => .gop v65 true (.fad 9 v23) fun v66 => .gop v65 true (.ld1 v66) fun v67 => .gop v65 true (.fad 9 v6) fun v68 => .gop v65 true (.ld1 v68) fun v69 => .gop v65 true (.bin 0 .eql v67 v69) fun v70 => .op (.pick v65 v70 (AV.bool false)) fun v71 => .fin [.val v71]))))
theorem c_spec_l16Deed (x0 x1 : AV) : CC Tryz.prog n_spec_l16Deed [x0, x1] (p_spec_l16Deed x0 x1) := cc Tryz.func197 [] (fun _ => []) (by kernel_rfl)
end
def deedFor (k : Nat) (t : Task) (d : Deed) : Prop := d.task = k ∧ d.res = -1 ∧ (d.lin ≠ -1 ↔ (t.op = 2 ∧ t.pc = 3)) ∧ ((t.op = 1 ∧ d.op = 1 ∧ d.s = t.s) ∨ (t.op = 2 ∧ d.op = 2 ∧ d.trace = t.trace ∧ d.stamp = t.stamp))
def deedT (x : Wld) (k : Nat) (t : Task) : Prop := match x.deeds[t.h.toNat]? with
  | none => False
  | some d => deedFor k t d
theorem deedT_s {x : Wld} {k : Nat} {t : Task} {d : Deed} (h : x.deeds[t.h.toNat]? = some d) : deedT x k t ↔ deedFor k t d := by unfold deedT; rw [h]
theorem deedT_n {x : Wld} {k : Nat} {t : Task} (h : x.deeds.length ≤ t.h.toNat) : ¬ deedT x k t := by unfold deedT; rw [List.getElem?_eq_none h]; exact id
theorem s_impl_deedOfTask {h : AH} {x : Wld} {cs : List AV} {F : List Nat} {k : Nat} {t : Task} (ht : x.tasks[k]? = some t) (h0 : 0 ≤ t.h) (ho : t.op = 1 ∨ t.op = 2) (r : Cel.rep h x cs F) :
    RCalls Tryz.prog n_impl_deedOfTask [.agg cs, .int .i64 (k : Int)] h (.bool (bp (deedT x k t))) := by
  obtain ⟨v0, v1, v2, v3, v4, v5, v6, v7, v8, v9, v10, F0, F1, F2, F3, F4, F5, F6, F7, F8, F9, F10, rfl, rfl, r0, r1, r2, r3, r4, r5, r6, r7, r8, r9, r10⟩ := r
  have hl9 := r9.small
  have hl10 := r10.small
  refine reader (c_impl_deedOfTask _ _) (by simp only [old]) ?_
  unfold p_impl_deedOfTask
  by_cases hlt : t.h.toNat < x.deeds.length
  · obtain ⟨d, hd, -, -⟩ := drop_step hlt
    (repeat' first|refine vs ?_|(refine br ?_ ?_<;>intro _<;>try(exfalso;first|omega|contradiction))|((with_reducible refine g_callf n_impl_SameSpan ?_);(refine aw_rcall_b (s_impl_SameSpan (a := d.s) (b := t.s) slr_auto slr_auto) ?_ ?_ <;> intro hn <;> first | replace hn := bp_true hn | replace hn := bp_false hn))|((with_reducible refine g_idx ?_);((first|refine ix ?_|refine ixi ?_|(refine ixg ?_;intro _ _)|(refine ixgi ?_;intro _ _));first|rintro _ _ _ _ _ ⟨rfl,rfl⟩ _|rintro _ _ _ _ _ ⟨_,rfl,_⟩ _|rintro _ _ _ _ _ ⟨_,_,_,_,rfl,rfl,_,_⟩ _|intro _ _ _ _ _ _ _))|(refine sx ?_;intro _ _)|((with_reducible refine g_awp ?_);simp only [g0,g1,g2]))
    all_goals first
      | (refine pt ((deedT_s hd).2 ?_); unfold deedFor; first | exact ⟨by omega, by omega, by omega, .inl ⟨by omega, by omega, by assumption⟩⟩ | exact ⟨by omega, by omega, by omega, .inr ⟨by omega, by omega, by omega, by omega⟩⟩)
      | (refine pf fun k => ?_; obtain ⟨a1, a2, a3, ⟨b1, b2, b3⟩ | ⟨b1, b2, b3, b4⟩⟩ := (deedT_s hd).1 k <;> first | contradiction | omega)
  · (repeat' first|refine vs ?_|(refine br ?_ ?_<;>intro _<;>try(exfalso;first|omega|contradiction))|((with_reducible refine g_idx ?_);((first|refine ix ?_|refine ixi ?_|(refine ixg ?_;intro _ _)|(refine ixgi ?_;intro _ _));first|rintro _ _ _ _ _ ⟨rfl,rfl⟩ _|rintro _ _ _ _ _ ⟨_,rfl,_⟩ _|rintro _ _ _ _ _ ⟨_,_,_,_,rfl,rfl,_,_⟩ _|intro _ _ _ _ _ _ _))|(refine sx ?_;intro _ _)|((with_reducible refine g_awp ?_);simp only [g0,g1,g2]))
    exact pf (deedT_n (by omega))
theorem s_spec_l16Deed {h : AH} {x : Wld} {cs : List AV} {F : List Nat} {k : Nat} {t : Task} (ht : x.tasks[k]? = some t) (h0 : 0 ≤ t.h) (ho : t.op = 0 ∨ t.op = 1 ∨ t.op = 2) (r : Cel.rep h x cs F) :
    RCalls Tryz.prog n_spec_l16Deed [.agg cs, .int .i64 (k : Int)] h (.bool (bp (t.op ≠ 0 → deedT x k t))) := by
  obtain ⟨v0, v1, v2, v3, v4, v5, v6, v7, v8, v9, v10, F0, F1, F2, F3, F4, F5, F6, F7, F8, F9, F10, rfl, rfl, r0, r1, r2, r3, r4, r5, r6, r7, r8, r9, r10⟩ := r
  have hl9 := r9.small
  have hl10 := r10.small
  refine reader (c_spec_l16Deed _ _) (by simp only [old]) ?_
  unfold p_spec_l16Deed
  by_cases hlt : t.h.toNat < x.deeds.length
  · obtain ⟨d, hd, -, -⟩ := drop_step hlt
    (repeat' first|refine vs ?_|(refine br ?_ ?_<;>intro _<;>try(exfalso;first|omega|contradiction))|((with_reducible refine g_callf n_spec_SameSpan ?_);(refine aw_rcall_b (s_spec_SameSpan (a := d.s) (b := t.s) slr_auto slr_auto) ?_ ?_ <;> intro hn <;> first | replace hn := bp_true hn | replace hn := bp_false hn))|((with_reducible refine g_idx ?_);((first|refine ix ?_|refine ixi ?_|(refine ixg ?_;intro _ _)|(refine ixgi ?_;intro _ _));first|rintro _ _ _ _ _ ⟨rfl,rfl⟩ _|rintro _ _ _ _ _ ⟨_,rfl,_⟩ _|rintro _ _ _ _ _ ⟨_,_,_,_,rfl,rfl,_,_⟩ _|intro _ _ _ _ _ _ _))|(refine sx ?_;intro _ _)|((with_reducible refine g_awp ?_);simp only [g0,g1,g2]))
    all_goals first
      | exact pt fun hh => absurd (by assumption) hh
      | (refine pt fun _ => (deedT_s hd).2 ?_; unfold deedFor; first | exact ⟨by omega, by omega, by omega, .inl ⟨by omega, by omega, by assumption⟩⟩ | exact ⟨by omega, by omega, by omega, .inr ⟨by omega, by omega, by omega, by omega⟩⟩)
      | (refine pf fun k => ?_; obtain ⟨a1, a2, a3, ⟨b1, b2, b3⟩ | ⟨b1, b2, b3, b4⟩⟩ := (deedT_s hd).1 (k (by omega)) <;> first | contradiction | omega)
  · (repeat' first|refine vs ?_|(refine br ?_ ?_<;>intro _<;>try(exfalso;first|omega|contradiction))|((with_reducible refine g_idx ?_);((first|refine ix ?_|refine ixi ?_|(refine ixg ?_;intro _ _)|(refine ixgi ?_;intro _ _));first|rintro _ _ _ _ _ ⟨rfl,rfl⟩ _|rintro _ _ _ _ _ ⟨_,rfl,_⟩ _|rintro _ _ _ _ _ ⟨_,_,_,_,rfl,rfl,_,_⟩ _|intro _ _ _ _ _ _ _))|(refine sx ?_;intro _ _)|((with_reducible refine g_awp ?_);simp only [g0,g1,g2]))
    all_goals first
      | exact pt fun hh => absurd (by assumption) hh
      | exact pf fun k => deedT_n (by omega) (k (by omega))
end Go.Proofs.YtjnekdbdmoibgaaGreat
end
section
/- Worlds: the tasks, their deeds and locks. -/
set_option linter.unusedSimpArgs false
set_option linter.unusedVariables false
set_option maxHeartbeats 8000000
namespace Go.Proofs.YtjnekdbdmoibgaaGreat
open Go Go.Ab
section
/- impl.tasksOk -/
def p_impl_tasksOk (x0 : AV) : Prog := .op (.box x0) fun v1 => .op (.fad 29 v1) fun v2 => .op (.ld1 v2) fun v3 => .op (.len 0 v3) fun v4 => .op (.bin 0 .neq v4 (AV.int .i64 5)) fun v5 => .ite v5 (.fin [.val (AV.bool false)]) (.op (.fad 14 v1) fun v6 => .op (.ld1 v6) fun v7 => .op (.len 0 v7) fun v8 => .op (.mksl 1 8 [AV.int .i64 0] v8 v8) fun v9 => .op (.len 0 v9) fun v10 => .loop [AV.int .i64 0] (fun vs11 => .op (.bin 0 .lss (g vs11 0) v10) fun v13 => .ite v13 (.op (.idx 1 v9 (g vs11 0)) fun v14 => .op (.st 1 v14 (AV.int .i64 (-1))) fun v15 => .op (.bin 0 .add (g vs11 0) (AV.int .i64 1)) fun v16 => .leaf 0 [v16]) (.leaf 2 [g vs11 0])) fun t12 vs11 => tsel t12 1 (.leaf 1 vs11) (tsel t12 2 (.op (.fad 29 v1) fun v17 => .op (.ld1 v17) fun v18 => .op (.len 0 v18) fun v19 => .loop [AV.int .i64 (-1), .tup [], .tup [], AV.int .i64 0] (fun vs20 => .op (.bin 0 .lss (g vs20 3) v19) fun v22 => .ite v22 (.op (.idx 12 v18 (g vs20 3)) fun v23 => .op (.ldn 12 v23) fun v24 => .op (.alloc z12_f83) fun v25 => .op (.st 12 v25 v24) fun v26 => .op (.ldn 12 v25) fun v27 => .op (.call n_impl_TaskOk [v27, g vs20 3]) fun v28 => .op (.una .not v28) fun v29 => .gop v29 false (.fad 0 v25) fun v30 => .gop v29 false (.ld1 v30) fun v31 => .gop v29 false (.bin 0 .neq v31 (AV.int .i64 0)) fun v32 => .gop v29 false (.mv v32) fun v33 => .gop v33 true (.ldn 32 v1) fun v34 => .gop v33 true (.mv (g vs20 3)) fun v35 => .gop v33 true (.call n_impl_deedOfTask [v34, v35]) fun v36 => .gop v33 true (.una .not v36) fun v37 => .gop v29 false (.pick v33 v37 (AV.bool false)) fun v38 => .op (.pick v29 (AV.bool true) v38) fun v39 => .ite v39 (.fin [.val (AV.bool false)]) (.op (.ldn 12 v25) fun v40 => .op (.fad 14 v1) fun v41 => .op (.ld1 v41) fun v42 => .op (.len 0 v42) fun v43 => .op (.call n_impl_HoldsStripe [v40, v43]) fun v44 => .op (.bin 0 .geq v44 (AV.int .i64 0)) fun v45 => .scope (.ite v45 (.op (.idx 1 v9 v44) fun v46 => .op (.ld1 v46) fun v47 => .op (.bin 0 .neq v47 (AV.int .i64 (-1))) fun v48 => .ite v48 (.fin [.val (AV.bool false)]) (.op (.idx 1 v9 v44) fun v49 => .op (.st 1 v49 (g vs20 3)) fun v50 => .leaf 0 [])) (.leaf 0 [])) (fun vs51 => .op (.ldn 12 v25) fun v53 => .op (.call n_impl_HoldsRule [v53]) fun v54 => .scope (.ite v54 (.op (.bin 0 .neq (g vs20 0) (AV.int .i64 (-1))) fun v55 => .ite v55 (.fin [.val (AV.bool false)]) (.leaf 0 [g vs20 3])) (.leaf 0 [g vs20 0])) (fun vs56 => .op (.bin 0 .add (g vs20 3) (AV.int .i64 1)) fun v58 => .leaf 0 [g vs56 0, g vs20 3, v25, v58]) fun t57 vs56 => tsel t57 1 (.leaf 1 vs56) .bad) fun t52 vs51 => tsel t52 1 (.leaf 1 vs51) .bad)) (.leaf 4 [g vs20 0, g vs20 1, g vs20 2, g vs20 3])) fun t21 vs20 => tsel t21 1 (.leaf 1 vs20) (tsel t21 4 (.op (.fad 14 v1) fun v59 => .op (.ld1 v59) fun v60 => .op (.len 0 v60) fun v61 => .loop [AV.int .i64 0] (fun vs62 => .op (.bin 0 .lss (g vs62 0) v61) fun v64 => .ite v64 (.op (.idx 2 v60 (g vs62 0)) fun v65 => .op (.ldn 2 v65) fun v66 => .op (.alloc [AV.int .i64 0, AV.nils]) fun v67 => .op (.st 2 v67 v66) fun v68 => .op (.fad 0 v67) fun v69 => .op (.ld1 v69) fun v70 => .op (.idx 1 v9 (g vs62 0)) fun v71 => .op (.ld1 v71) fun v72 => .op (.bin 0 .neq v70 v72) fun v73 => .ite v73 (.fin [.val (AV.bool false)]) (.op (.bin 0 .add (g vs62 0) (AV.int .i64 1)) fun v74 => .leaf 0 [v74])) (.leaf 6 [g vs62 0])) fun t63 vs62 => tsel t63 1 (.leaf 1 vs62) (tsel t63 6 (.op (.fad 15 v1) fun v75 => .op (.ld1 v75) fun v76 => .op (.bin 0 .eql v76 (g vs20 0)) fun v77 => .fin [.val v77]) .bad)) .bad)) .bad))
theorem c_impl_tasksOk (x0 : AV) : CC Tryz.prog n_impl_tasksOk [x0] (p_impl_tasksOk x0) := cc Tryz.func141 [1, 3, 5, 6, 7, 20, 21, 29, 30, 31, 74, 75, 76] (fun r => if r = 28 then [(0, []), (1, []), (2, []), (3, []), (4, []), (5, []), (6, [])] else []) (by kernel_rfl)
end
/-! ### Who holds which lock -/
def takeS (n : Nat) (hs : List Int) (k : Nat) (t : Task) : Option (List Int) := if 0 ≤ holdsStripe t n then (if hs[(holdsStripe t n).toNat]? = some (-1) then some (hs.set (holdsStripe t n).toNat (k : Int)) else none) else some hs
def takeR (r : Int) (k : Nat) (t : Task) : Option Int := if t.op = 2 ∧ t.pc = 2 then (if r = -1 then some (k : Int) else none) else some r
def lockStep (n : Nat) (s : List Int × Int) (k : Nat) (t : Task) : Option (List Int × Int) := match takeS n s.1 k t, takeR s.2 k t with
  | some a, some b => some (a, b)
  | _, _ => none
def locks (n : Nat) (l : List Task) : Nat → Option (List Int × Int)
  | 0 => some (List.replicate n (-1), -1)
  | k + 1 => match locks n l k, l[k]? with
    | some s, some t => lockStep n s k t
    | _, _ => none
theorem locks_s {n k : Nat} {l : List Task} {hs hs' : List Int} {r r' : Int} {t : Task} (h : locks n l k = some (hs, r)) (ht : l[k]? = some t) (a : takeS n hs k t = some hs') (b : takeR r k t = some r') : locks n l (k + 1) = some (hs', r') := by
  simp [locks, h, ht, lockStep, a, b]
theorem locks_f1 {n k : Nat} {l : List Task} {hs : List Int} {r : Int} {t : Task} (h : locks n l k = some (hs, r)) (ht : l[k]? = some t) (a : takeS n hs k t = none) : locks n l (k + 1) = none := by
  simp [locks, h, ht, lockStep, a]
theorem locks_f2 {n k : Nat} {l : List Task} {hs : List Int} {r : Int} {t : Task} (h : locks n l k = some (hs, r)) (ht : l[k]? = some t) (b : takeR r k t = none) : locks n l (k + 1) = none := by
  simp only [locks, h, ht, lockStep, b]
  cases takeS n hs k t <;> rfl
theorem locks_mono {n k : Nat} {l : List Task} (h : locks n l k = none) : ∀ {m : Nat}, k ≤ m → locks n l m = none
  | 0, hm => by have : k = 0 := by omega
                subst this; exact h
  | m + 1, hm => by
    by_cases e : k = m + 1
    · subst e; exact h
    · have := locks_mono h (m := m) (by omega)
      simp [locks, this]
theorem takeS_n {n k : Nat} {hs : List Int} {t : Task} (h : ¬ holdsStripe t n ≥ 0) : takeS n hs k t = some hs := by unfold takeS; rw [if_neg (by omega)]
theorem takeS_y {n k : Nat} {hs : List Int} {t : Task} {y : Int} (h : holdsStripe t n ≥ 0) (hy : hs[(holdsStripe t n).toNat]? = some y) (e : y = -1) : takeS n hs k t = some (hs.set (holdsStripe t n).toNat (k : Int)) := by
  subst e; unfold takeS; rw [if_pos (by omega), if_pos hy]
theorem takeS_f {n k : Nat} {hs : List Int} {t : Task} {y : Int} (h : holdsStripe t n ≥ 0) (hy : hs[(holdsStripe t n).toNat]? = some y) (e : ¬ y = -1) : takeS n hs k t = none := by
  unfold takeS; rw [if_pos (by omega), if_neg (by rw [hy]; simpa using e)]
theorem takeR_n {r : Int} {k : Nat} {t : Task} (h : ¬ (t.op = 2 ∧ t.pc = 2)) : takeR r k t = some r := by unfold takeR; rw [if_neg h]
theorem takeR_y {r : Int} {k : Nat} {t : Task} (h : t.op = 2 ∧ t.pc = 2) (e : r = -1) : takeR r k t = some (k : Int) := by unfold takeR; rw [if_pos h, if_pos e]
theorem takeR_f {r : Int} {k : Nat} {t : Task} (h : t.op = 2 ∧ t.pc = 2) (e : ¬ r = -1) : takeR r k t = none := by unfold takeR; rw [if_pos h, if_neg e]
theorem holds_b (t : Task) (n : Nat) : -1 ≤ holdsStripe t n ∧ (0 ≤ holdsStripe t n → holdsStripe t n < n) := by
  unfold holdsStripe
  by_cases hn : (n : Int) < 1
  · rw [if_pos hn]; omega
  · rw [if_neg hn]
    have h1 := stripe_b (t := t.s.trace) (n := n) (by omega)
    have h2 := stripe_b (t := t.trace) (n := n) (by omega)
    split
    · omega
    · split <;> omega
def taskD (x : Wld) (k : Nat) (t : Task) : Prop := taskOk t k ∧ (t.op ≠ 0 → deedT x k t)
def locksOk (x : Wld) : Prop := ∃ hs r, locks x.st.length x.tasks x.tasks.length = some (hs, r) ∧ (∀ (i : Nat) (s : Stripe), x.st[i]? = some s → hs[i]? = some s.held) ∧ x.ruleHeld = r
def tasksP (x : Wld) : Prop := (x.tasks.length : Int) = 5 ∧ (∀ (k : Nat) (t : Task), x.tasks[k]? = some t → taskD x k t) ∧ locksOk x
def tasksQ (x : Wld) : Prop := (∀ (k : Nat) (t : Task), x.tasks[k]? = some t → taskD x k t ∧ t.stamp < x.next) ∧ locksOk x
theorem taskOk_h {t : Task} {k : Int} (h : taskOk t k) : 0 ≤ t.h := h.1
theorem taskOk_op {t : Task} {k : Int} (h : taskOk t k) (h0 : ¬ t.op = 0) : t.op = 1 ∨ t.op = 2 := by
  obtain ⟨-, -, -, h | h | h⟩ := h
  · exact absurd (by rw [h]; rfl) h0
  · exact .inl h.1
  · exact .inr h.1
theorem taskOk_op3 {t : Task} {k : Int} (h : taskOk t k) : t.op = 0 ∨ t.op = 1 ∨ t.op = 2 := by
  by_cases h0 : t.op = 0
  · exact .inl h0
  · exact .inr (taskOk_op h h0)

/-! ### Numbers in slices of one's own -/
section
variable {P : Program} {h : AH} {Q : Nat → List AV → AH → Prop} {k : AV → Prog}
theorem aw_getI {z y : Int} {v : AV} {xs : List Int} {F : List Nat} (r : SlRep h v xs F) (hz : 0 ≤ z) (hy : xs[z.toNat]? = some y) (hk : (k (.int .i64 y)).awp P h Q) : (Prog.op (.idx 1 v (.int .i64 z)) fun a => .op (.ld1 a) k).awp P h Q := by
  have e1 : z = ((z.toNat : Nat) : Int) := by omega
  rw [e1]
  refine aw_idx r hy rfl ?_
  rintro b o _ Fi a ⟨rfl, rfl⟩ _
  exact aw_ld1_at a (Ext.refl _) hk
theorem reps_rep {h : AH} {y : Int} : ∀ n, Reps h (List.replicate n y) (List.replicate n ([.int .i64 y] : List AV)).flatten []
  | 0 => ⟨rfl, rfl⟩
  | n + 1 => ⟨[.int .i64 y], _, [], [], by simp [List.replicate_succ], rfl, ⟨rfl, rfl⟩, reps_rep n⟩
end

theorem s_impl_tasksOk {h : AH} {x : Wld} {cs : List AV} {F : List Nat} (ok : Cel.ok x) (hs : Sz.sz x ≤ 67108864) (r : Cel.rep h x cs F) :
    RCalls Tryz.prog n_impl_tasksOk [.agg cs] h (.bool (bp (tasksP x))) := by
  obtain ⟨v0, v1, v2, v3, v4, v5, v6, v7, v8, v9, v10, F0, F1, F2, F3, F4, F5, F6, F7, F8, F9, F10, rfl, rfl, r0, r1, r2, r3, r4, r5, r6, r7, r8, r9, r10⟩ := r
  obtain ⟨ok_c, ok_time, ok_st, ok_ruleHeld, ok_b, ok_cache, ok_used, ok_w, ok_due, ok_queue, ok_out, ok_tasks, ok_deeds, ok_next⟩ := ok
  have hs : Sz.sz x.c + (x.st.length + szs x.st) + (x.cache.length + szs x.cache) + Sz.sz x.w + (x.due.length + szs x.due) + (x.queue.length + szs x.queue) + (x.out.length + szs x.out) + (x.tasks.length + szs x.tasks) + (x.deeds.length + szs x.deeds) ≤ 67108864 := hs
  have hl1 := r1.small
  have hl9 := r9.small
  refine reader (c_impl_tasksOk _) (by simp only [old]) ?_
  unfold p_impl_tasksOk
  (repeat' first|refine vs ?_|(refine br ?_ ?_<;>intro _<;>try(exfalso;first|omega|contradiction))|((with_reducible refine g_idx ?_);((first|refine ix ?_|refine ixi ?_|(refine ixg ?_;intro _ _)|(refine ixgi ?_;intro _ _));first|rintro _ _ _ _ _ ⟨rfl,rfl⟩ _|rintro _ _ _ _ _ ⟨_,rfl,_⟩ _|rintro _ _ _ _ _ ⟨_,_,_,_,rfl,rfl,_,_⟩ _|intro _ _ _ _ _ _ _))|(refine sx ?_;intro _ _)|((with_reducible refine g_awp ?_);simp only [g0,g1,g2]))
  · exact pf fun k => by have := k.1; omega
  refine aw_mksl (by omega) ?_
  have hlr : (List.replicate x.st.length (0 : Int)).length = x.st.length := by simp
  have rN : SlRep ((h.push ⟨(x.cs v0 v1 v2 v3 v4 v5 v6 v7 v8 v9 v10), 0, 0⟩).push ⟨(List.replicate x.st.length ([.int .i64 0] : List AV)).flatten, 1, 0⟩) (.sl (h.n + 1) 0 x.st.length) (List.replicate x.st.length (0 : Int)) [h.n + 1] := slrep_push (h := h.push ⟨(x.cs v0 v1 v2 v3 v4 v5 v6 v7 v8 v9 v10), 0, 0⟩) (n := x.st.length) (xs := List.replicate x.st.length (0 : Int)) (by simp) (by omega) (reps_rep _)
  have oN : Own (h.n + 1) ((h.push ⟨(x.cs v0 v1 v2 v3 v4 v5 v6 v7 v8 v9 v10), 0, 0⟩).push ⟨(List.replicate x.st.length ([.int .i64 0] : List AV)).flatten, 1, 0⟩) [h.n + 1] := own_push (by simp) rfl (by simp) Own.nil
  (repeat' first|refine vs ?_|(refine br ?_ ?_<;>intro _<;>try(exfalso;first|omega|contradiction))|((with_reducible refine g_idx ?_);((first|refine ix ?_|refine ixi ?_|(refine ixg ?_;intro _ _)|(refine ixgi ?_;intro _ _));first|rintro _ _ _ _ _ ⟨rfl,rfl⟩ _|rintro _ _ _ _ _ ⟨_,rfl,_⟩ _|rintro _ _ _ _ _ ⟨_,_,_,_,rfl,rfl,_,_⟩ _|intro _ _ _ _ _ _ _))|(refine sx ?_;intro _ _)|((with_reducible refine g_awp ?_);simp only [g0,g1,g2]))
  refine aw_upto x.st.length (fun i vs h1 => ∃ G, vs = [.int .i64 (i : Int)] ∧ i ≤ x.st.length ∧ Ext (h.push ⟨(x.cs v0 v1 v2 v3 v4 v5 v6 v7 v8 v9 v10), 0, 0⟩) h1 ∧ h.n + 2 ≤ h1.n ∧ SlRep h1 (.sl (h.n + 1) 0 x.st.length) (List.replicate i (-1 : Int) ++ List.replicate (x.st.length - i) 0) G ∧ Own (h.n + 1) h1 G) ⟨_, rfl, Nat.zero_le _, ext_auto, by simp, by simpa using rN, oN⟩ ?_
  rintro i vs h1 _ ⟨G, rfl, hi, e1, hn1, rG, oG⟩
  simp only [g0]
  refine br (fun hlt => ?_) (fun hge => ?_)
  · refine aw_ite_t (aw_setI rG oG (by omega) (by simp; omega) ?_)
    intro h2 ek2 kp2 hn2 rG2 oG2
    (repeat' first|refine vs ?_|(refine br ?_ ?_<;>intro _<;>try(exfalso;first|omega|contradiction))|((with_reducible refine g_idx ?_);((first|refine ix ?_|refine ixi ?_|(refine ixg ?_;intro _ _)|(refine ixgi ?_;intro _ _));first|rintro _ _ _ _ _ ⟨rfl,rfl⟩ _|rintro _ _ _ _ _ ⟨_,rfl,_⟩ _|rintro _ _ _ _ _ ⟨_,_,_,_,rfl,rfl,_,_⟩ _|intro _ _ _ _ _ _ _))|(refine sx ?_;intro _ _)|((with_reducible refine g_awp ?_);simp only [g0,g1,g2]))
    refine ⟨by omega, G, rfl, by omega, ek2 _ e1 (by simp), by omega, ?_, oG2⟩
    have : (List.replicate i (-1 : Int) ++ List.replicate (x.st.length - i) 0).set ((i : Int)).toNat (-1) = List.replicate (i + 1) (-1 : Int) ++ List.replicate (x.st.length - (i + 1)) 0 := by
      have e : x.st.length - i = (x.st.length - (i + 1)) + 1 := by omega
      rw [e, List.replicate_succ, List.set_append_right _ _ (by simp), List.replicate_succ' (n := i)]
      simp
    rw [← this]; exact rG2
  have ei : i = x.st.length := by omega
  subst ei
  rw [show List.replicate x.st.length (-1 : Int) ++ List.replicate (x.st.length - x.st.length) 0 = List.replicate x.st.length (-1 : Int) by simp] at rG
  (repeat' first|refine vs ?_|(refine br ?_ ?_<;>intro _<;>try(exfalso;first|omega|contradiction))|((with_reducible refine g_idx ?_);((first|refine ix ?_|refine ixi ?_|(refine ixg ?_;intro _ _)|(refine ixgi ?_;intro _ _));first|rintro _ _ _ _ _ ⟨rfl,rfl⟩ _|rintro _ _ _ _ _ ⟨_,rfl,_⟩ _|rintro _ _ _ _ _ ⟨_,_,_,_,rfl,rfl,_,_⟩ _|intro _ _ _ _ _ _ _))|(refine sx ?_;intro _ _)|((with_reducible refine g_awp ?_);simp only [g0,g1,g2]))
  have b1 : Bk h1 h.n (x.cs v0 v1 v2 v3 v4 v5 v6 v7 v8 v9 v10) 0 := bk_ext1 e1 bk_push
  refine aw_upto x.tasks.length (fun i vs h2 => ∃ y1 y2 hs r G, vs = [.int .i64 r, y1, y2, .int .i64 (i : Int)] ∧ i ≤ x.tasks.length ∧ Ext (h.push ⟨(x.cs v0 v1 v2 v3 v4 v5 v6 v7 v8 v9 v10), 0, 0⟩) h2 ∧ h.n + 2 ≤ h2.n ∧ hs.length = x.st.length ∧ locks x.st.length x.tasks i = some (hs, r) ∧ SlRep h2 (.sl (h.n + 1) 0 x.st.length) hs G ∧ Own (h.n + 1) h2 G ∧ Upto x.tasks (taskD x) i) ⟨_, _, _, _, G, rfl, Nat.zero_le _, ext_auto, hn1, by simp, rfl, rG, oG, up0⟩ ?_
  clear hi hge e1 hn1 rG oG b1 rN oN
  rintro i vs h2 _ ⟨y1, y2, hs', r', G', rfl, hi, e2, hn2, hlen, hlk, rG', oG', hu⟩
  simp only [g0, g1, g2, g3]
  refine br (fun hlt => ?_) (fun hge => ?_)
  · obtain ⟨t, ht, -, -⟩ := drop_step (show i < x.tasks.length by omega)
    have hm := List.mem_of_getElem? ht
    have hsz := szs_mem hm
    have okt := ok_tasks t hm
    have hbz := holds_b t x.st.length
    refine vs ?_
    refine aw_idx r9 ht rfl ?_
    rintro b o _ Fi a ⟨va, vb, Fa, Fb, rfl, rfl, ra, rb⟩ _
    (repeat' first|refine vs ?_|(refine br ?_ ?_<;>intro _<;>try(exfalso;first|omega|contradiction))|((with_reducible refine g_callf n_impl_TaskOk ?_);(refine aw_rcall_b (s_impl_TaskOk (t := t) okt (by omega) slr_auto slr_auto) ?_ ?_ <;> intro hn <;> first | replace hn := bp_true hn | replace hn := bp_false hn))|((with_reducible refine g_callf n_impl_deedOfTask ?_);(refine aw_rcall_b (s_impl_deedOfTask ht (taskOk_h (by assumption)) (taskOk_op (by assumption) (by assumption)) ⟨_, _, _, _, _, _, _, _, _, _, _, _, _, _, _, _, _, _, _, _, _, _, rfl, rfl, slr_auto, slr_auto, slr_auto, slr_auto, slr_auto, slr_auto, slr_auto, slr_auto, slr_auto, slr_auto, slr_auto⟩) ?_ ?_ <;> intro hn <;> first | replace hn := bp_true hn | replace hn := bp_false hn))|((with_reducible refine g_idx ?_);((first|refine ix ?_|refine ixi ?_|(refine ixg ?_;intro _ _)|(refine ixgi ?_;intro _ _));first|rintro _ _ _ _ _ ⟨rfl,rfl⟩ _|rintro _ _ _ _ _ ⟨_,rfl,_⟩ _|rintro _ _ _ _ _ ⟨_,_,_,_,rfl,rfl,_,_⟩ _|intro _ _ _ _ _ _ _))|(refine sx ?_;intro _ _)|((with_reducible refine g_awp ?_);simp only [g0,g1,g2]))
    all_goals first
      | (refine pf fun k => ?_; have k := k.2.1 i t ht; first | exact absurd k.1 (by assumption) | exact absurd (k.2 (by assumption)) (by assumption))
      | skip
    all_goals
      have hD : taskD x i t := ⟨by assumption, by intro hh; first | assumption | exact absurd (by assumption) hh⟩
      refine aw_rcall (s_impl_HoldsStripe (t := t)) ?_
      refine br (fun hge2 => ?_) (fun hlt2 => ?_)
      · have hzl := hbz.2 hge2
        obtain ⟨y, hy, -, -⟩ := drop_step (show (holdsStripe t x.st.length).toNat < hs'.length by omega)
        refine vs ?_
        refine aw_getI slr_auto (by omega) hy ?_
        refine br (fun hne => ?_) (fun heq => ?_)
        · (repeat' first|refine vs ?_|(refine br ?_ ?_<;>intro _<;>try(exfalso;first|omega|contradiction))|((with_reducible refine g_idx ?_);((first|refine ix ?_|refine ixi ?_|(refine ixg ?_;intro _ _)|(refine ixgi ?_;intro _ _));first|rintro _ _ _ _ _ ⟨rfl,rfl⟩ _|rintro _ _ _ _ _ ⟨_,rfl,_⟩ _|rintro _ _ _ _ _ ⟨_,_,_,_,rfl,rfl,_,_⟩ _|intro _ _ _ _ _ _ _))|(refine sx ?_;intro _ _)|((with_reducible refine g_awp ?_);simp only [g0,g1,g2]))
          exact pf fun k => by
            obtain ⟨-, -, h5, r5, hl5, -⟩ := k
            rw [locks_mono (locks_f1 hlk ht (takeS_f hge2 hy hne)) (by omega)] at hl5; cases hl5
        · refine aw_ite_f (aw_setI (n := h.n + 1) (y := i) slr_auto ol_auto (by omega) (by omega) ?_)
          intro h3 ek3 kp3 hn3 rG3 oG3
          have e3 := ek3 _ (ext_auto : Ext (h.push ⟨(x.cs v0 v1 v2 v3 v4 v5 v6 v7 v8 v9 v10), 0, 0⟩) _) (by simp)
          have hsS := takeS_y (k := i) hge2 hy heq
          have bt : Bk h3 h2.n [.int .i64 t.op, .int .i64 t.pc, .int .i64 t.s.trace, .int .i64 t.s.id, .int .i64 t.s.start, .int .i64 t.s.fin, .bool t.s.err, va, .int .i64 t.trace, .int .i64 t.stamp, vb, .int .i64 t.h] 0 := bk_kp1 kp3 bk_auto (nin_lt rG' (Nat.le_refl _))
          (repeat' first|refine vs ?_|(refine br ?_ ?_<;>intro _<;>try(exfalso;first|omega|contradiction))|((with_reducible refine g_callf n_impl_HoldsRule ?_);(refine aw_rcall_b (s_impl_HoldsRule (t := t)) ?_ ?_ <;> intro hn <;> first | replace hn := bp_true hn | replace hn := bp_false hn))|((with_reducible refine g_idx ?_);((first|refine ix ?_|refine ixi ?_|(refine ixg ?_;intro _ _)|(refine ixgi ?_;intro _ _));first|rintro _ _ _ _ _ ⟨rfl,rfl⟩ _|rintro _ _ _ _ _ ⟨_,rfl,_⟩ _|rintro _ _ _ _ _ ⟨_,_,_,_,rfl,rfl,_,_⟩ _|intro _ _ _ _ _ _ _))|(refine sx ?_;intro _ _)|((with_reducible refine g_awp ?_);simp only [g0,g1,g2]))
          all_goals first
            | (refine pf fun k => ?_; obtain ⟨-, -, h5, r5, hl5, -⟩ := k; rw [locks_mono (locks_f2 hlk ht (takeR_f (by assumption) (by assumption))) (by omega)] at hl5; cases hl5)
            | exact ⟨by omega, _, _, _, _, _, rfl, by omega, ext_auto, om_auto, by simpa using hlen, locks_s hlk ht hsS (takeR_y (by assumption) (by assumption)), slr_auto, ol_auto, upS hu ht hD⟩
            | exact ⟨by omega, _, _, _, _, _, rfl, by omega, ext_auto, om_auto, by simpa using hlen, locks_s hlk ht hsS (takeR_n (by assumption)), slr_auto, ol_auto, upS hu ht hD⟩
      · have hsS := takeS_n (k := i) (hs := hs') hlt2
        (repeat' first|refine vs ?_|(refine br ?_ ?_<;>intro _<;>try(exfalso;first|omega|contradiction))|((with_reducible refine g_callf n_impl_HoldsRule ?_);(refine aw_rcall_b (s_impl_HoldsRule (t := t)) ?_ ?_ <;> intro hn <;> first | replace hn := bp_true hn | replace hn := bp_false hn))|((with_reducible refine g_idx ?_);((first|refine ix ?_|refine ixi ?_|(refine ixg ?_;intro _ _)|(refine ixgi ?_;intro _ _));first|rintro _ _ _ _ _ ⟨rfl,rfl⟩ _|rintro _ _ _ _ _ ⟨_,rfl,_⟩ _|rintro _ _ _ _ _ ⟨_,_,_,_,rfl,rfl,_,_⟩ _|intro _ _ _ _ _ _ _))|(refine sx ?_;intro _ _)|((with_reducible refine g_awp ?_);simp only [g0,g1,g2]))
        all_goals first
          | (refine pf fun k => ?_; obtain ⟨-, -, h5, r5, hl5, -⟩ := k; rw [locks_mono (locks_f2 hlk ht (takeR_f (by assumption) (by assumption))) (by omega)] at hl5; cases hl5)
          | exact ⟨by omega, _, _, _, _, _, rfl, by omega, ext_auto, om_auto, hlen, locks_s hlk ht hsS (takeR_y (by assumption) (by assumption)), slr_auto, ol_auto, upS hu ht hD⟩
          | exact ⟨by omega, _, _, _, _, _, rfl, by omega, ext_auto, om_auto, hlen, locks_s hlk ht hsS (takeR_n (by assumption)), slr_auto, ol_auto, upS hu ht hD⟩
  · have ei : i = x.tasks.length := by omega
    subst ei
    have hu := upEnd hu
    (repeat' first|refine vs ?_|(refine br ?_ ?_<;>intro _<;>try(exfalso;first|omega|contradiction))|((with_reducible refine g_idx ?_);((first|refine ix ?_|refine ixi ?_|(refine ixg ?_;intro _ _)|(refine ixgi ?_;intro _ _));first|rintro _ _ _ _ _ ⟨rfl,rfl⟩ _|rintro _ _ _ _ _ ⟨_,rfl,_⟩ _|rintro _ _ _ _ _ ⟨_,_,_,_,rfl,rfl,_,_⟩ _|intro _ _ _ _ _ _ _))|(refine sx ?_;intro _ _)|((with_reducible refine g_awp ?_);simp only [g0,g1,g2]))
    refine aw_upto x.st.length (fun i vs h3 => vs = [.int .i64 (i : Int)] ∧ i ≤ x.st.length ∧ Ext h2 h3 ∧ Upto x.st (fun i s => hs'[i]? = some s.held) i) ⟨rfl, Nat.zero_le _, Ext.refl _, up0⟩ ?_
    rintro i vs h3 _ ⟨rfl, hi3, e3, hu3⟩
    simp only [g0]
    refine br (fun hlt => ?_) (fun hge3 => ?_)
    · obtain ⟨s, hx, -, -⟩ := drop_step (show i < x.st.length by omega)
      obtain ⟨y, hy, -, -⟩ := drop_step (show i < hs'.length by omega)
      (repeat' first|refine vs ?_|(refine br ?_ ?_<;>intro _<;>try(exfalso;first|omega|contradiction))|((with_reducible refine g_idx ?_);((first|refine ix ?_|refine ixi ?_|(refine ixg ?_;intro _ _)|(refine ixgi ?_;intro _ _));first|rintro _ _ _ _ _ ⟨rfl,rfl⟩ _|rintro _ _ _ _ _ ⟨_,rfl,_⟩ _|rintro _ _ _ _ _ ⟨_,_,_,_,rfl,rfl,_,_⟩ _|intro _ _ _ _ _ _ _))|(refine sx ?_;intro _ _)|((with_reducible refine g_awp ?_);simp only [g0,g1,g2]))
      · exact pf fun k => by
          obtain ⟨-, -, h5, r5, hl5, hh, -⟩ := k
          rw [hlk] at hl5; cases hl5
          have := hh i s hx
          rw [hy] at this; cases this
          contradiction
      · exact ⟨by omega, rfl, by omega, ext_auto, upS hu3 hx (by rw [hy]; congr 1; omega)⟩
    · rw [show i = x.st.length by omega] at hu3
      have hu3 := upEnd hu3
      (repeat' first|refine vs ?_|(refine br ?_ ?_<;>intro _<;>try(exfalso;first|omega|contradiction))|((with_reducible refine g_idx ?_);((first|refine ix ?_|refine ixi ?_|(refine ixg ?_;intro _ _)|(refine ixgi ?_;intro _ _));first|rintro _ _ _ _ _ ⟨rfl,rfl⟩ _|rintro _ _ _ _ _ ⟨_,rfl,_⟩ _|rintro _ _ _ _ _ ⟨_,_,_,_,rfl,rfl,_,_⟩ _|intro _ _ _ _ _ _ _))|(refine sx ?_;intro _ _)|((with_reducible refine g_awp ?_);simp only [g0,g1,g2]))
      · exact pt ⟨by omega, hu, _, _, hlk, hu3, by assumption⟩
      · exact pf fun k => by
          obtain ⟨-, -, h5, r5, hl5, hh, hr⟩ := k
          rw [hlk] at hl5; cases hl5
          contradiction
end Go.Proofs.YtjnekdbdmoibgaaGreat
end
section
/- Worlds: the values that may be. -/
set_option linter.unusedSimpArgs false
set_option linter.unusedVariables false
set_option maxHeartbeats 8000000
namespace Go.Proofs.YtjnekdbdmoibgaaGreat
open Go Go.Ab
section
/- impl.valuesOk -/
abbrev q_impl_valuesOk_1 (v120 : AV) (v1 : AV) : Prog := .op (.len 0 v120) fun v121 => .loop [AV.int .i64 0] (fun vs122 => .op (.bin 0 .lss (g vs122 0) v121) fun v124 => .ite v124 (.op (.idx 3 v120 (g vs122 0)) fun v125 => .op (.ldn 3 v125) fun v126 => .op (.alloc [AV.int .i64 0, AV.int .i64 0, AV.int .i64 0]) fun v127 => .op (.st 3 v127 v126) fun v128 => .op (.fad 0 v127) fun v129 => .op (.ld1 v129) fun v130 => .op (.bin 0 .lss v130 (AV.int .i64 1)) fun v131 => .gop v131 false (.fad 1 v127) fun v132 => .gop v131 false (.ld1 v132) fun v133 => .gop v131 false (.call n_impl_within [v133, AV.int .i64 1, AV.int .i64 999]) fun v134 => .gop v131 false (.una .not v134) fun v135 => .op (.pick v131 (AV.bool true) v135) fun v136 => .ite v136 (.fin [.val (AV.bool false)]) (.op (.bin 0 .add (g vs122 0) (AV.int .i64 1)) fun v137 => .leaf 0 [v137])) (.leaf 2 [g vs122 0])) fun t123 vs122 => tsel t123 1 (.leaf 1 vs122) (tsel t123 2 (.op (.fad 30 v1) fun v138 => .op (.ld1 v138) fun v139 => .op (.len 0 v139) fun v140 => .loop [AV.int .i64 0] (fun vs141 => .op (.bin 0 .lss (g vs141 0) v140) fun v143 => .ite v143 (.op (.idx 20 v139 (g vs141 0)) fun v144 => .op (.ldn 20 v144) fun v145 => .op (.alloc z20_1ff) fun v146 => .op (.st 20 v146 v145) fun v147 => .op (.ldn 20 v146) fun v148 => .op (.call n_impl_DeedOk [v148]) fun v149 => .op (.una .not v149) fun v150 => .gop v150 false (.fad 17 v146) fun v151 => .gop v150 false (.ld1 v151) fun v152 => .gop v150 false (.fad 18 v146) fun v153 => .gop v150 false (.ld1 v153) fun v154 => .gop v150 false (.fad 19 v146) fun v155 => .gop v150 false (.ld1 v155) fun v156 => .gop v150 false (.mnx false [v152, v154, v156]) fun v157 => .gop v150 false (.fad 12 v1) fun v158 => .gop v150 false (.ld1 v158) fun v159 => .gop v150 false (.bin 0 .geq v157 v159) fun v160 => .op (.pick v150 (AV.bool true) v160) fun v161 => .ite v161 (.fin [.val (AV.bool false)]) (.op (.bin 0 .add (g vs141 0) (AV.int .i64 1)) fun v162 => .leaf 0 [v162])) (.leaf 4 [g vs141 0])) fun t142 vs141 => tsel t142 1 (.leaf 1 vs141) (tsel t142 4 (.fin [.val (AV.bool true)]) .bad)) .bad)
abbrev q_impl_valuesOk_2 (v100 : AV) (v1 : AV) : Prog := .gop v100 false (.fad 27 v1) fun v101 => .gop v100 false (.ld1 v101) fun v102 => .gop v100 false (.len 0 v102) fun v103 => .gop v100 false (.fad 0 v1) fun v104 => .gop v100 false (.fad 4 v104) fun v105 => .gop v100 false (.ld1 v105) fun v106 => .gop v100 false (.bin 0 .gtr v103 v106) fun v107 => .op (.pick v100 (AV.bool true) v107) fun v108 => .gop v108 false (.fad 27 v1) fun v109 => .gop v108 false (.ld1 v109) fun v110 => .gop v108 false (.call n_impl_itemsOk [v110]) fun v111 => .gop v108 false (.una .not v111) fun v112 => .op (.pick v108 (AV.bool true) v112) fun v113 => .gop v113 false (.fad 28 v1) fun v114 => .gop v113 false (.ld1 v114) fun v115 => .gop v113 false (.call n_impl_itemsOk [v115]) fun v116 => .gop v113 false (.una .not v116) fun v117 => .op (.pick v113 (AV.bool true) v117) fun v118 => .ite v118 (.fin [.val (AV.bool false)]) (.op (.fad 26 v1) fun v119 => .op (.ld1 v119) fun v120 => q_impl_valuesOk_1 v120 v1)
abbrev q_impl_valuesOk_3 (v80 : AV) (v1 : AV) : Prog := .op (.ld1 v80) fun v81 => .op (.fad 0 v1) fun v82 => .op (.fad 3 v82) fun v83 => .op (.ld1 v83) fun v84 => .op (.call n_impl_CacheOk [v81, v84]) fun v85 => .op (.una .not v85) fun v86 => .gop v86 false (.fad 21 v1) fun v87 => .gop v86 false (.ld1 v87) fun v88 => .gop v86 false (.fad 14 v1) fun v89 => .gop v86 false (.ld1 v89) fun v90 => .gop v86 false (.call n_impl_HeldBytes [v90]) fun v91 => .gchk v86 false (.ld1 v87) v88 (.gop v86 false (.bin 0 .neq v88 v91) fun v92 => .op (.pick v86 (AV.bool true) v92) fun v93 => .gop v93 false (.fad 21 v1) fun v94 => .gop v93 false (.ld1 v94) fun v95 => .gop v93 false (.fad 0 v1) fun v96 => .gop v93 false (.fad 2 v96) fun v97 => .gop v93 false (.ld1 v97) fun v98 => .gop v93 false (.bin 0 .gtr v95 v98) fun v99 => .op (.pick v93 (AV.bool true) v99) fun v100 => q_impl_valuesOk_2 v100 v1)
abbrev q_impl_valuesOk_4 (v55 : AV) (v60 : AV) (v58 : AV) (v1 : AV) : Prog := .gop v55 false (.ld1 v60) fun v61 => .gop v55 false (.bin 0 .neq v58 v61) fun v62 => .op (.pick v55 (AV.bool true) v62) fun v63 => .gop v63 false (.fad 16 v1) fun v64 => .gop v63 false (.fad 1 v64) fun v65 => .gop v63 false (.ld1 v65) fun v66 => .gop v63 false (.fad 0 v1) fun v67 => .gop v63 false (.fad 6 v67) fun v68 => .gop v63 false (.ld1 v68) fun v69 => .gop v63 false (.bin 0 .neq v66 v69) fun v70 => .op (.pick v63 (AV.bool true) v70) fun v71 => .gop v71 false (.fad 16 v1) fun v72 => .gop v71 false (.fad 3 v72) fun v73 => .gop v71 false (.ld1 v73) fun v74 => .gop v71 false (.fad 22 v1) fun v75 => .gop v71 false (.fad 0 v75) fun v76 => .gop v71 false (.ld1 v76) fun v77 => .gop v71 false (.bin 0 .gtr v74 v77) fun v78 => .op (.pick v71 (AV.bool true) v78) fun v79 => .ite v79 (.fin [.val (AV.bool false)]) (.op (.fad 20 v1) fun v80 => q_impl_valuesOk_3 v80 v1)
abbrev q_impl_valuesOk_5 (v40 : AV) (v1 : AV) : Prog := .gop v40 false (.fad 13 v1) fun v41 => .gop v40 false (.ld1 v41) fun v42 => .gop v40 false (.mv v42) fun v43 => .gop v43 true (.fad 22 v1) fun v44 => .gop v43 true (.ldn 4 v44) fun v45 => .gop v43 true (.call n_impl_Timers [v45]) fun v46 => .gop v43 true (.len 0 v46) fun v47 => .gop v43 true (.bin 0 .gtr v47 (AV.int .i64 0)) fun v48 => .gop v40 false (.pick v43 v48 (AV.bool false)) fun v49 => .op (.pick v40 (AV.bool true) v49) fun v50 => .gop v50 false (.fad 16 v1) fun v51 => .gop v50 false (.ldn 4 v51) fun v52 => .gop v50 false (.call n_impl_BucketOk [v52]) fun v53 => .gop v50 false (.una .not v53) fun v54 => .op (.pick v50 (AV.bool true) v54) fun v55 => .gop v55 false (.fad 16 v1) fun v56 => .gop v55 false (.fad 0 v56) fun v57 => .gop v55 false (.ld1 v57) fun v58 => .gop v55 false (.fad 0 v1) fun v59 => .gop v55 false (.fad 5 v59) fun v60 => q_impl_valuesOk_4 v55 v60 v58 v1
abbrev q_impl_valuesOk_6 (v18 : AV) (v20 : AV) (v1 : AV) : Prog := .gop v18 false (.call n_impl_StripesOk [v20]) fun v21 => .gop v18 false (.una .not v21) fun v22 => .op (.pick v18 (AV.bool true) v22) fun v23 => .gop v23 false (.fad 14 v1) fun v24 => .gop v23 false (.ld1 v24) fun v25 => .gop v23 false (.len 0 v25) fun v26 => .gop v23 false (.fad 0 v1) fun v27 => .gop v23 false (.fad 0 v27) fun v28 => .gop v23 false (.ld1 v28) fun v29 => .gop v23 false (.bin 0 .neq v26 v29) fun v30 => .op (.pick v23 (AV.bool true) v30) fun v31 => .ite v31 (.fin [.val (AV.bool false)]) (.op (.fad 22 v1) fun v32 => .op (.ldn 4 v32) fun v33 => .op (.call n_impl_WheelOk [v33]) fun v34 => .op (.una .not v34) fun v35 => .gop v35 false (.fad 22 v1) fun v36 => .gop v35 false (.fad 0 v36) fun v37 => .gop v35 false (.ld1 v37) fun v38 => .gop v35 false (.bin 0 .gtr v38 (AV.int .i64 100000)) fun v39 => .op (.pick v35 (AV.bool true) v39) fun v40 => q_impl_valuesOk_5 v40 v1)
def p_impl_valuesOk (x0 : AV) : Prog := .op (.box x0) fun v1 => .op (.fad 0 v1) fun v2 => .op (.ldn 12 v2) fun v3 => .op (.call n_impl_ConfOk [v3]) fun v4 => .op (.una .not v4) fun v5 => .gop v5 false (.fad 12 v1) fun v6 => .gop v5 false (.ld1 v6) fun v7 => .gop v5 false (.bin 0 .lss v7 (AV.int .i64 0)) fun v8 => .op (.pick v5 (AV.bool true) v8) fun v9 => .gop v9 false (.fad 15 v1) fun v10 => .gop v9 false (.ld1 v10) fun v11 => .gop v9 false (.call n_impl_within [v11, AV.int .i64 (-1), AV.int .i64 4]) fun v12 => .gop v9 false (.una .not v12) fun v13 => .op (.pick v9 (AV.bool true) v13) fun v14 => .gop v14 false (.fad 31 v1) fun v15 => .gop v14 false (.ld1 v15) fun v16 => .gop v14 false (.bin 0 .lss v16 (AV.int .i64 1)) fun v17 => .op (.pick v14 (AV.bool true) v17) fun v18 => .gop v18 false (.fad 14 v1) fun v19 => .gop v18 false (.ld1 v19) fun v20 => q_impl_valuesOk_6 v18 v20 v1
theorem c_impl_valuesOk (x0 : AV) : CC Tryz.prog n_impl_valuesOk [x0] (p_impl_valuesOk x0) := cc Tryz.func140 [1, 141, 142, 143, 158, 159, 160] (fun r => if r = 5 then [(0, []), (1, []), (2, []), (3, []), (4, []), (5, []), (6, []), (7, []), (8, []), (9, []), (10, []), (11, []), (12, [9]), (13, []), (14, []), (15, []), (16, []), (17, []), (18, []), (19, []), (20, []), (21, []), (22, []), (23, []), (24, []), (25, []), (26, []), (27, []), (28, []), (29, []), (30, []), (31, []), (32, []), (33, []), (34, []), (35, []), (36, []), (37, []), (38, []), (39, []), (40, []), (41, []), (42, []), (43, [])] else []) (by kernel_rfl)
end
theorem g_gopb {P : Program} {h : AH} {Q : Nat → List AV → AH → Prop} {g : Bool} {o : AOp} {k : AV → Prog} (b : Bool) (hk : (Prog.gop (.bool b) g o k).awp P h Q) : (Prog.gop (.bool b) g o k).awp P h Q := hk
theorem w_max3 {P : Program} {h : AH} {Q : Nat → List AV → AH → Prop} {k : AV → Prog} {a b c : Int} (hk : (k (.int .i64 (max (max a b) c))).awp P h Q) : (Prog.op (.mnx false [.int .i64 a, .int .i64 b, .int .i64 c]) k).awp P h Q := by
  simp only [Prog.awp, AOp.go, amnx, amnxGo, Bool.false_eq_true, if_false]
  have e : ∀ x y : Int, (if x < y then y else x) = max x y := fun x y => by split <;> omega
  simp only [e]
  exact hk
def valsOk (x : Wld) : Prop := confOk x.c ∧ 0 ≤ x.time ∧ 1 ≤ x.next ∧ stripesOk x.st ∧ (x.st.length : Int) = x.c.stripes ∧ bucketOk x.b ∧ x.b.rate = x.c.rate ∧ x.b.burst = x.c.burst ∧ x.b.at_ ≤ x.w.now ∧ cOk x.cache x.c.cache ∧
  x.used = held x.st ∧ x.used ≤ x.c.budget ∧ wheelOk x.w ∧ x.w.now ≤ 100000 ∧ (x.shut = true → ¬ 0 < ((timers x.w).length : Int)) ∧ (x.queue.length : Int) ≤ x.c.queue ∧ (∀ y ∈ x.queue, itemOk y) ∧ (∀ y ∈ x.out, itemOk y) ∧
  ∀ d ∈ x.deeds, deedOk d ∧ d.inv < x.time ∧ d.lin < x.time ∧ d.res < x.time
def dueOk (x : Wld) : Prop := ∀ t ∈ x.due, 1 ≤ t.id ∧ (1 ≤ t.trace ∧ t.trace ≤ 999)
theorem s_impl_valuesOk {h : AH} {x : Wld} {cs : List AV} {F : List Nat} (ok : Cel.ok x) (hs : Sz.sz x ≤ 67108864) (r : Cel.rep h x cs F) :
    RCalls Tryz.prog n_impl_valuesOk [.agg cs] h (.bool (bp (valsOk x ∧ (-1 ≤ x.ruleHeld ∧ x.ruleHeld ≤ 4) ∧ dueOk x))) := by
  obtain ⟨v0, v1, v2, v3, v4, v5, v6, v7, v8, v9, v10, F0, F1, F2, F3, F4, F5, F6, F7, F8, F9, F10, rfl, rfl, r0, r1, r2, r3, r4, r5, r6, r7, r8, r9, r10⟩ := r
  obtain ⟨ok_c, ok_time, ok_st, ok_ruleHeld, ok_b, ok_cache, ok_used, ok_w, ok_due, ok_queue, ok_out, ok_tasks, ok_deeds, ok_next⟩ := ok
  have hs : Sz.sz x.c + (x.st.length + szs x.st) + (x.cache.length + szs x.cache) + Sz.sz x.w + (x.due.length + szs x.due) + (x.queue.length + szs x.queue) + (x.out.length + szs x.out) + (x.tasks.length + szs x.tasks) + (x.deeds.length + szs x.deeds) ≤ 67108864 := hs
  have hl1 := r1.small
  have hl6 := r6.small
  have hl7 := r7.small
  have hl10 := r10.small
  refine reader (c_impl_valuesOk _) (by simp only [old]) ?_
  unfold p_impl_valuesOk
  (repeat' first|refine vs ?_|((with_reducible refine g_gopb x.shut ?_);generalize hsh : x.shut = bsh;cases bsh)|(refine br ?_ ?_<;>intro _<;>try(exfalso;first|omega|contradiction))|((with_reducible refine g_callf n_impl_within ?_);(refine aw_rcall_b (s_impl_within) ?_ ?_ <;> intro hb <;> (first | replace hb := inB_t hb | replace hb := inB_f hb)))|((with_reducible refine g_callf n_impl_ConfOk ?_);(refine aw_rcall_b (s_impl_ConfOk (c := x.c) ok_c.2.2.2.2.2.2.2 slr_auto) ?_ ?_ <;> intro hn <;> first | replace hn := bp_true hn | replace hn := bp_false hn))|((with_reducible refine g_callf n_impl_StripesOk ?_);(refine aw_rcall_b (s_impl_StripesOk ok_st om_auto slr_auto) ?_ ?_ <;> intro hn <;> first | replace hn := bp_true hn | replace hn := bp_false hn))|((with_reducible refine g_callf n_impl_WheelOk ?_);(refine aw_rcall_b (s_impl_WheelOk (w := x.w) om_auto slr_auto slr_auto slr_auto) ?_ ?_ <;> intro hn <;> first | replace hn := bp_true hn | replace hn := bp_false hn))|((with_reducible refine g_callf n_impl_Timers ?_);(refine aw_call (s_impl_Timers (w := x.w) om_auto slr_auto slr_auto slr_auto) ?_; rintro _ _ ⟨e_, _, _, _⟩; have n_ := e_.1; (try simp only [push_n, upd_n] at n_)))|((with_reducible refine g_callf n_impl_BucketOk ?_);(refine aw_rcall_b (s_impl_BucketOk (b := x.b)) ?_ ?_ <;> intro hn <;> first | replace hn := bp_true hn | replace hn := bp_false hn))|((with_reducible refine g_callf n_impl_CacheOk ?_);(refine aw_rcall_b (s_impl_CacheOk slr_auto) ?_ ?_ <;> intro hn <;> first | replace hn := bp_true hn | replace hn := bp_false hn))|((with_reducible refine g_callf n_impl_HeldBytes ?_);refine aw_rcall (s_impl_HeldBytes (l := x.st) om_auto slr_auto) ?_)|((with_reducible refine g_callf n_impl_itemsOk ?_);((first | refine aw_rcall_b (s_impl_itemsOk (xs := x.queue) ok_queue om_auto slr_auto) ?_ ?_ | refine aw_rcall_b (s_impl_itemsOk (xs := x.out) ok_out om_auto slr_auto) ?_ ?_) <;> intro hn <;> first | replace hn := bp_true hn | replace hn := bp_false hn))|((with_reducible refine g_idx ?_);((first|refine ix ?_|refine ixi ?_|(refine ixg ?_;intro _ _)|(refine ixgi ?_;intro _ _));first|rintro _ _ _ _ _ ⟨rfl,rfl⟩ _|rintro _ _ _ _ _ ⟨_,rfl,_⟩ _|rintro _ _ _ _ _ ⟨_,_,_,_,rfl,rfl,_,_⟩ _|intro _ _ _ _ _ _ _))|(refine sx ?_;intro _ _)|((with_reducible refine g_awp ?_);simp only [g0,g1,g2]))
  all_goals first
    | (refine pf fun k => ?_; obtain ⟨⟨a1, a2, a3, a4, a5, a6, a7, a8, a9, a10, a11, a12, a13, a14, a15, a16, a17, a18, a19⟩, b1, b2⟩ := k; first | contradiction | omega | (have := a15 (by assumption); omega))
    | skip
  all_goals
    refine aw_upto x.due.length (fun i vs h1 => vs = [.int .i64 (i : Int)] ∧ i ≤ x.due.length ∧ Ext (h.push ⟨(x.cs v0 v1 v2 v3 v4 v5 v6 v7 v8 v9 v10), 0, 0⟩) h1 ∧ Upto x.due (fun _ t => 1 ≤ t.id ∧ (1 ≤ t.trace ∧ t.trace ≤ 999)) i) ⟨rfl, Nat.zero_le _, ext_auto, up0⟩ ?_
    rintro i vs h1 _ ⟨rfl, hi, e1, hu⟩
    simp only [g0]
    refine br (fun hlt => ?_) (fun hge => ?_)
    · obtain ⟨t, ht, -, -⟩ := drop_step (show i < x.due.length by omega)
      (repeat' first|refine vs ?_|(refine br ?_ ?_<;>intro _<;>try(exfalso;first|omega|contradiction))|((with_reducible refine g_callf n_impl_within ?_);(refine aw_rcall_b (s_impl_within) ?_ ?_ <;> intro hb <;> (first | replace hb := inB_t hb | replace hb := inB_f hb)))|((with_reducible refine g_idx ?_);((first|refine ix ?_|refine ixi ?_|(refine ixg ?_;intro _ _)|(refine ixgi ?_;intro _ _));first|rintro _ _ _ _ _ ⟨rfl,rfl⟩ _|rintro _ _ _ _ _ ⟨_,rfl,_⟩ _|rintro _ _ _ _ _ ⟨_,_,_,_,rfl,rfl,_,_⟩ _|intro _ _ _ _ _ _ _))|(refine sx ?_;intro _ _)|((with_reducible refine g_awp ?_);simp only [g0,g1,g2]))
      all_goals first
        | exact pf fun k => upNot ht (by rintro ⟨a1, a2⟩; omega) k.2.2
        | exact ⟨by omega, rfl, by omega, ext_auto, upS hu ht (by omega)⟩
    rw [show i = x.due.length by omega] at hu
    have hdue := upAll hu
    clear hi hge hu
    (repeat' first|refine vs ?_|(refine br ?_ ?_<;>intro _<;>try(exfalso;first|omega|contradiction))|((with_reducible refine g_idx ?_);((first|refine ix ?_|refine ixi ?_|(refine ixg ?_;intro _ _)|(refine ixgi ?_;intro _ _));first|rintro _ _ _ _ _ ⟨rfl,rfl⟩ _|rintro _ _ _ _ _ ⟨_,rfl,_⟩ _|rintro _ _ _ _ _ ⟨_,_,_,_,rfl,rfl,_,_⟩ _|intro _ _ _ _ _ _ _))|(refine sx ?_;intro _ _)|((with_reducible refine g_awp ?_);simp only [g0,g1,g2]))
    refine aw_upto x.deeds.length (fun i vs h2 => vs = [.int .i64 (i : Int)] ∧ i ≤ x.deeds.length ∧ Ext (h.push ⟨(x.cs v0 v1 v2 v3 v4 v5 v6 v7 v8 v9 v10), 0, 0⟩) h2 ∧ Upto x.deeds (fun _ d => deedOk d ∧ d.inv < x.time ∧ d.lin < x.time ∧ d.res < x.time) i) ⟨rfl, Nat.zero_le _, ext_auto, up0⟩ ?_
    rintro i vs h2 _ ⟨rfl, hi, e2, hu⟩
    simp only [g0]
    refine br (fun hlt => ?_) (fun hge => ?_)
    · obtain ⟨t, ht, -, -⟩ := drop_step (show i < x.deeds.length by omega)
      (repeat' first|refine vs ?_|((with_reducible refine w_max3 ?_))|(refine br ?_ ?_<;>intro _<;>try(exfalso;first|omega|contradiction))|((with_reducible refine g_callf n_impl_DeedOk ?_);(refine aw_rcall_b (s_impl_DeedOk (d := t)) ?_ ?_ <;> intro hn <;> first | replace hn := bp_true hn | replace hn := bp_false hn))|((with_reducible refine g_idx ?_);((first|refine ix ?_|refine ixi ?_|(refine ixg ?_;intro _ _)|(refine ixgi ?_;intro _ _));first|rintro _ _ _ _ _ ⟨rfl,rfl⟩ _|rintro _ _ _ _ _ ⟨_,rfl,_⟩ _|rintro _ _ _ _ _ ⟨_,_,_,_,rfl,rfl,_,_⟩ _|intro _ _ _ _ _ _ _))|(refine sx ?_;intro _ _)|((with_reducible refine g_awp ?_);simp only [g0,g1,g2]))
      all_goals first
        | (refine pf fun k => upNot ht (by rintro ⟨a1, a2⟩; first | contradiction | omega) k.1.2.2.2.2.2.2.2.2.2.2.2.2.2.2.2.2.2.2)
        | exact ⟨by omega, rfl, by omega, ext_auto, upS hu ht ⟨by assumption, by omega⟩⟩
    rw [show i = x.deeds.length by omega] at hu
    have hdeeds := upAll hu
    (repeat' first|refine vs ?_|(refine br ?_ ?_<;>intro _<;>try(exfalso;first|omega|contradiction))|((with_reducible refine g_idx ?_);((first|refine ix ?_|refine ixi ?_|(refine ixg ?_;intro _ _)|(refine ixgi ?_;intro _ _));first|rintro _ _ _ _ _ ⟨rfl,rfl⟩ _|rintro _ _ _ _ _ ⟨_,rfl,_⟩ _|rintro _ _ _ _ _ ⟨_,_,_,_,rfl,rfl,_,_⟩ _|intro _ _ _ _ _ _ _))|(refine sx ?_;intro _ _)|((with_reducible refine g_awp ?_);simp only [g0,g1,g2]))
    exact pt ⟨⟨by assumption, by omega, by omega, by assumption, by omega, by assumption, by omega, by omega, by omega, by assumption, by omega, by omega, by assumption, by omega, by intro hh; first | omega | (rw [hsh] at hh; cases hh), by omega, by assumption, by assumption, hdeeds⟩, by omega, hdue⟩
end Go.Proofs.YtjnekdbdmoibgaaGreat
end
section
/- Worlds: the tasks, their deeds and locks, by the reference. -/
set_option linter.unusedSimpArgs false
set_option linter.unusedVariables false
set_option maxHeartbeats 8000000
namespace Go.Proofs.YtjnekdbdmoibgaaGreat
open Go Go.Ab
section
/- spec.l16Tasks -/
def p_spec_l16Tasks (x0 : AV) : Prog := .op (.box x0) fun v1 => .op (.bslice 1 0 [] []) fun v2 => .loop [v2, AV.int .i64 0] (fun vs3 => .op (.fad 14 v1) fun v5 => .op (.ld1 v5) fun v6 => .op (.len 0 v6) fun v7 => .op (.bin 0 .lss (g vs3 1) v7) fun v8 => .ite v8 (.op (.bslice 1 1 [AV.int .i64 0] [(0, 1, AV.int .i64 (-1))]) fun v9 => .op (.app 1 8 (g vs3 0) v9) fun v10 => .op (.bin 0 .add (g vs3 1) (AV.int .i64 1)) fun v11 => .leaf 0 [v10, v11]) (.leaf 2 [g vs3 0, g vs3 1])) fun t4 vs3 => tsel t4 1 (.leaf 1 vs3) (tsel t4 2 (.loop [AV.int .i64 (-1), AV.int .i64 0, .tup []] (fun vs12 => .op (.fad 29 v1) fun v14 => .op (.ld1 v14) fun v15 => .op (.len 0 v15) fun v16 => .op (.bin 0 .lss (g vs12 1) v16) fun v17 => .ite v17 (.op (.fad 29 v1) fun v18 => .op (.ld1 v18) fun v19 => .op (.idx 12 v19 (g vs12 1)) fun v20 => .op (.ldn 12 v20) fun v21 => .op (.alloc z12_f83) fun v22 => .op (.st 12 v22 v21) fun v23 => .op (.ldn 12 v22) fun v24 => .op (.call n_spec_TaskOk [v24, g vs12 1]) fun v25 => .op (.una .not v25) fun v26 => .gop v26 false (.ldn 32 v1) fun v27 => .gop v26 false (.mv (g vs12 1)) fun v28 => .gop v26 false (.call n_spec_l16Deed [v27, v28]) fun v29 => .gop v26 false (.una .not v29) fun v30 => .op (.pick v26 (AV.bool true) v30) fun v31 => .gop v31 false (.fad 9 v22) fun v32 => .gop v31 false (.ld1 v32) fun v33 => .gop v31 false (.fad 31 v1) fun v34 => .gop v31 false (.ld1 v34) fun v35 => .gop v31 false (.bin 0 .geq v33 v35) fun v36 => .op (.pick v31 (AV.bool true) v36) fun v37 => .ite v37 (.fin [.val (AV.bool false)]) (.op (.ldn 12 v22) fun v38 => .op (.fad 14 v1) fun v39 => .op (.ld1 v39) fun v40 => .op (.len 0 v40) fun v41 => .op (.call n_spec_HoldsStripe [v38, v41]) fun v42 => .op (.bin 0 .geq v42 (AV.int .i64 0)) fun v43 => .scope (.ite v43 (.op (.idx 1 (g vs3 0) v42) fun v44 => .op (.ld1 v44) fun v45 => .op (.bin 0 .neq v45 (AV.int .i64 (-1))) fun v46 => .ite v46 (.fin [.val (AV.bool false)]) (.op (.idx 1 (g vs3 0) v42) fun v47 => .op (.st 1 v47 (g vs12 1)) fun v48 => .leaf 0 [])) (.leaf 0 [])) (fun vs49 => .op (.ldn 12 v22) fun v51 => .op (.call n_spec_HoldsRule [v51]) fun v52 => .scope (.ite v52 (.op (.bin 0 .neq (g vs12 0) (AV.int .i64 (-1))) fun v53 => .ite v53 (.fin [.val (AV.bool false)]) (.leaf 0 [g vs12 1])) (.leaf 0 [g vs12 0])) (fun vs54 => .op (.bin 0 .add (g vs12 1) (AV.int .i64 1)) fun v56 => .leaf 0 [g vs54 0, v56, v22]) fun t55 vs54 => tsel t55 1 (.leaf 1 vs54) .bad) fun t50 vs49 => tsel t50 1 (.leaf 1 vs49) .bad)) (.leaf 4 [g vs12 0, g vs12 1, g vs12 2])) fun t13 vs12 => tsel t13 1 (.leaf 1 vs12) (tsel t13 4 (.loop [AV.int .i64 0] (fun vs57 => .op (.fad 14 v1) fun v59 => .op (.ld1 v59) fun v60 => .op (.len 0 v60) fun v61 => .op (.bin 0 .lss (g vs57 0) v61) fun v62 => .ite v62 (.op (.fad 14 v1) fun v63 => .op (.ld1 v63) fun v64 => .op (.idx 2 v64 (g vs57 0)) fun v65 => .op (.fad 0 v65) fun v66 => .op (.ld1 v66) fun v67 => .op (.idx 1 (g vs3 0) (g vs57 0)) fun v68 => .op (.ld1 v68) fun v69 => .op (.bin 0 .neq v67 v69) fun v70 => .ite v70 (.fin [.val (AV.bool false)]) (.op (.bin 0 .add (g vs57 0) (AV.int .i64 1)) fun v71 => .leaf 0 [v71])) (.leaf 6 [g vs57 0])) fun t58 vs57 => tsel t58 1 (.leaf 1 vs57) (tsel t58 6 (.op (.fad 15 v1) fun v72 => .op (.ld1 v72) fun v73 => .op (.bin 0 .eql v73 (g vs12 0)) fun v74 => .fin [.val v74]) .bad)) .bad)) .bad)
theorem c_spec_l16Tasks (x0 : AV) : CC Tryz.prog n_spec_l16Tasks [x0] (p_spec_l16Tasks x0) := cc Tryz.func123 [1, 3, 4, 5, 6, 7, 9] (fun r => if r = 25 then [(0, []), (1, []), (2, []), (3, []), (4, []), (5, []), (6, []), (7, []), (8, []), (9, []), (10, [])] else []) (by kernel_rfl)
end
theorem s_spec_l16Tasks {h : AH} {x : Wld} {cs : List AV} {F : List Nat} (ok : Cel.ok x) (hs : Sz.sz x ≤ 67108864) (r : Cel.rep h x cs F) :
    RCalls Tryz.prog n_spec_l16Tasks [.agg cs] h (.bool (bp (tasksQ x))) := by
  obtain ⟨v0, v1, v2, v3, v4, v5, v6, v7, v8, v9, v10, F0, F1, F2, F3, F4, F5, F6, F7, F8, F9, F10, rfl, rfl, r0, r1, r2, r3, r4, r5, r6, r7, r8, r9, r10⟩ := r
  obtain ⟨ok_c, ok_time, ok_st, ok_ruleHeld, ok_b, ok_cache, ok_used, ok_w, ok_due, ok_queue, ok_out, ok_tasks, ok_deeds, ok_next⟩ := ok
  have hs : Sz.sz x.c + (x.st.length + szs x.st) + (x.cache.length + szs x.cache) + Sz.sz x.w + (x.due.length + szs x.due) + (x.queue.length + szs x.queue) + (x.out.length + szs x.out) + (x.tasks.length + szs x.tasks) + (x.deeds.length + szs x.deeds) ≤ 67108864 := hs
  have hl1 := r1.small
  have hl9 := r9.small
  refine reader (c_spec_l16Tasks _) (by simp only [old]) ?_
  unfold p_spec_l16Tasks
  refine vs ?_
  obtain ⟨re, oe⟩ := empty_own (h := h.push ⟨(x.cs v0 v1 v2 v3 v4 v5 v6 v7 v8 v9 v10), 0, 0⟩) (α := Int) (w := 1) rfl
  refine aw_upto x.st.length (fun i vs h1 => ∃ v G, vs = [v, .int .i64 (i : Int)] ∧ i ≤ x.st.length ∧ Ext (h.push ⟨(x.cs v0 v1 v2 v3 v4 v5 v6 v7 v8 v9 v10), 0, 0⟩) h1 ∧ SlRep h1 v (List.replicate i (-1 : Int)) G ∧ Own (h.n + 1) h1 G) ⟨_, _, rfl, Nat.zero_le _, ext_auto, re, oe _ (Nat.le_refl _)⟩ ?_
  rintro i vs h1 _ ⟨v, G, rfl, hi, e1, rG, oG⟩
  have n1 := e1.1
  simp only [push_n] at n1
  simp only [g0, g1]
  refine vs ?_
  refine br (fun hlt => ?_) (fun hge => ?_)
  · have hlr : (List.replicate i (-1 : Int)).length = i := by simp
    refine vs ?_
    refine app1F (n := h.n + 1) (xs := List.replicate i (-1 : Int)) (a := -1) (G := []) rG ⟨rfl, rfl⟩ (by simpa using oG) n1 rfl (by omega) (by omega) ?_
    intro v' h' F' ek kp r' o' _
    (repeat' first|refine vs ?_|(refine br ?_ ?_<;>intro _<;>try(exfalso;first|omega|contradiction))|((with_reducible refine g_idx ?_);((first|refine ix ?_|refine ixi ?_|(refine ixg ?_;intro _ _)|(refine ixgi ?_;intro _ _));first|rintro _ _ _ _ _ ⟨rfl,rfl⟩ _|rintro _ _ _ _ _ ⟨_,rfl,_⟩ _|rintro _ _ _ _ _ ⟨_,_,_,_,rfl,rfl,_,_⟩ _|intro _ _ _ _ _ _ _))|(refine sx ?_;intro _ _)|((with_reducible refine g_awp ?_);simp only [g0,g1,g2]))
    exact ⟨by omega, v', F', rfl, by omega, ek _ e1 (by simp), by rw [List.replicate_succ' (n := i)]; exact r', o'⟩
  have ei : i = x.st.length := by omega
  subst ei
  (repeat' first|refine vs ?_|(refine br ?_ ?_<;>intro _<;>try(exfalso;first|omega|contradiction))|((with_reducible refine g_idx ?_);((first|refine ix ?_|refine ixi ?_|(refine ixg ?_;intro _ _)|(refine ixgi ?_;intro _ _));first|rintro _ _ _ _ _ ⟨rfl,rfl⟩ _|rintro _ _ _ _ _ ⟨_,rfl,_⟩ _|rintro _ _ _ _ _ ⟨_,_,_,_,rfl,rfl,_,_⟩ _|intro _ _ _ _ _ _ _))|(refine sx ?_;intro _ _)|((with_reducible refine g_awp ?_);simp only [g0,g1,g2]))
  refine aw_upto x.tasks.length (fun i vs h2 => ∃ y1 hs r G, vs = [.int .i64 r, .int .i64 (i : Int), y1] ∧ i ≤ x.tasks.length ∧ Ext (h.push ⟨(x.cs v0 v1 v2 v3 v4 v5 v6 v7 v8 v9 v10), 0, 0⟩) h2 ∧ h.n + 1 ≤ h2.n ∧ hs.length = x.st.length ∧ locks x.st.length x.tasks i = some (hs, r) ∧ SlRep h2 v hs G ∧ Own (h.n + 1) h2 G ∧ Upto x.tasks (fun k t => taskD x k t ∧ t.stamp < x.next) i) ⟨_, _, _, G, rfl, Nat.zero_le _, ext_auto, n1, by simp, rfl, rG, oG, up0⟩ ?_
  clear hi hge e1 n1 rG oG re oe
  rintro i vs h2 _ ⟨y1, hs', r', G', rfl, hi, e2, hn2, hlen, hlk, rG', oG', hu⟩
  simp only [g0, g1, g2]
  refine vs ?_
  refine br (fun hlt => ?_) (fun hge => ?_)
  · obtain ⟨t, ht, -, -⟩ := drop_step (show i < x.tasks.length by omega)
    have hm := List.mem_of_getElem? ht
    have hsz := szs_mem hm
    have okt := ok_tasks t hm
    have hbz := holds_b t x.st.length
    refine vs ?_
    refine aw_idx r9 ht rfl ?_
    rintro b o _ Fi a ⟨va, vb, Fa, Fb, rfl, rfl, ra, rb⟩ _
    (repeat' first|refine vs ?_|(refine br ?_ ?_<;>intro _<;>try(exfalso;first|omega|contradiction))|((with_reducible refine g_callf n_spec_TaskOk ?_);(refine aw_rcall_b (s_spec_TaskOk (t := t) okt (by omega) slr_auto slr_auto) ?_ ?_ <;> intro hn <;> first | replace hn := bp_true hn | replace hn := bp_false hn))|((with_reducible refine g_callf n_spec_l16Deed ?_);(refine aw_rcall_b (s_spec_l16Deed ht (taskOk_h (by assumption)) (taskOk_op3 (by assumption)) ⟨_, _, _, _, _, _, _, _, _, _, _, _, _, _, _, _, _, _, _, _, _, _, rfl, rfl, slr_auto, slr_auto, slr_auto, slr_auto, slr_auto, slr_auto, slr_auto, slr_auto, slr_auto, slr_auto, slr_auto⟩) ?_ ?_ <;> intro hn <;> first | replace hn := bp_true hn | replace hn := bp_false hn))|((with_reducible refine g_idx ?_);((first|refine ix ?_|refine ixi ?_|(refine ixg ?_;intro _ _)|(refine ixgi ?_;intro _ _));first|rintro _ _ _ _ _ ⟨rfl,rfl⟩ _|rintro _ _ _ _ _ ⟨_,rfl,_⟩ _|rintro _ _ _ _ _ ⟨_,_,_,_,rfl,rfl,_,_⟩ _|intro _ _ _ _ _ _ _))|(refine sx ?_;intro _ _)|((with_reducible refine g_awp ?_);simp only [g0,g1,g2]))
    all_goals first
      | (refine pf fun k => ?_; have k := k.1 i t ht; first | exact absurd k.1.1 (by assumption) | exact absurd k.1.2 (by assumption) | (have := k.2; omega))
      | skip
    all_goals
      have hD : taskD x i t ∧ t.stamp < x.next := ⟨⟨by assumption, by assumption⟩, by omega⟩
      refine aw_rcall (s_spec_HoldsStripe (t := t)) ?_
      refine br (fun hge2 => ?_) (fun hlt2 => ?_)
      · have hzl := hbz.2 hge2
        obtain ⟨y, hy, -, -⟩ := drop_step (show (holdsStripe t x.st.length).toNat < hs'.length by omega)
        refine vs ?_
        refine aw_getI slr_auto (by omega) hy ?_
        refine br (fun hne => ?_) (fun heq => ?_)
        · (repeat' first|refine vs ?_|(refine br ?_ ?_<;>intro _<;>try(exfalso;first|omega|contradiction))|((with_reducible refine g_idx ?_);((first|refine ix ?_|refine ixi ?_|(refine ixg ?_;intro _ _)|(refine ixgi ?_;intro _ _));first|rintro _ _ _ _ _ ⟨rfl,rfl⟩ _|rintro _ _ _ _ _ ⟨_,rfl,_⟩ _|rintro _ _ _ _ _ ⟨_,_,_,_,rfl,rfl,_,_⟩ _|intro _ _ _ _ _ _ _))|(refine sx ?_;intro _ _)|((with_reducible refine g_awp ?_);simp only [g0,g1,g2]))
          exact pf fun k => by
            obtain ⟨-, h5, r5, hl5, -⟩ := k
            rw [locks_mono (locks_f1 hlk ht (takeS_f hge2 hy hne)) (by omega)] at hl5; cases hl5
        · refine aw_ite_f (aw_setI (n := h.n + 1) (y := i) slr_auto ol_auto (by omega) (by omega) ?_)
          intro h3 ek3 kp3 hn3 rG3 oG3
          have e3 := ek3 _ (ext_auto : Ext (h.push ⟨(x.cs v0 v1 v2 v3 v4 v5 v6 v7 v8 v9 v10), 0, 0⟩) _) (by simp)
          have hsS := takeS_y (k := i) hge2 hy heq
          have bt : Bk h3 h2.n [.int .i64 t.op, .int .i64 t.pc, .int .i64 t.s.trace, .int .i64 t.s.id, .int .i64 t.s.start, .int .i64 t.s.fin, .bool t.s.err, va, .int .i64 t.trace, .int .i64 t.stamp, vb, .int .i64 t.h] 0 := bk_kp1 kp3 bk_auto (nin_lt rG' (Nat.le_refl _))
          (repeat' first|refine vs ?_|(refine br ?_ ?_<;>intro _<;>try(exfalso;first|omega|contradiction))|((with_reducible refine g_callf n_spec_HoldsRule ?_);(refine aw_rcall_b (s_spec_HoldsRule (t := t)) ?_ ?_ <;> intro hn <;> first | replace hn := bp_true hn | replace hn := bp_false hn))|((with_reducible refine g_idx ?_);((first|refine ix ?_|refine ixi ?_|(refine ixg ?_;intro _ _)|(refine ixgi ?_;intro _ _));first|rintro _ _ _ _ _ ⟨rfl,rfl⟩ _|rintro _ _ _ _ _ ⟨_,rfl,_⟩ _|rintro _ _ _ _ _ ⟨_,_,_,_,rfl,rfl,_,_⟩ _|intro _ _ _ _ _ _ _))|(refine sx ?_;intro _ _)|((with_reducible refine g_awp ?_);simp only [g0,g1,g2]))
          all_goals first
            | (refine pf fun k => ?_; obtain ⟨-, h5, r5, hl5, -⟩ := k; rw [locks_mono (locks_f2 hlk ht (takeR_f (by assumption) (by assumption))) (by omega)] at hl5; cases hl5)
            | exact ⟨by omega, _, _, _, _, rfl, by omega, ext_auto, om_auto, by simpa using hlen, locks_s hlk ht hsS (takeR_y (by assumption) (by assumption)), slr_auto, ol_auto, upS hu ht hD⟩
            | exact ⟨by omega, _, _, _, _, rfl, by omega, ext_auto, om_auto, by simpa using hlen, locks_s hlk ht hsS (takeR_n (by assumption)), slr_auto, ol_auto, upS hu ht hD⟩
      · have hsS := takeS_n (k := i) (hs := hs') hlt2
        (repeat' first|refine vs ?_|(refine br ?_ ?_<;>intro _<;>try(exfalso;first|omega|contradiction))|((with_reducible refine g_callf n_spec_HoldsRule ?_);(refine aw_rcall_b (s_spec_HoldsRule (t := t)) ?_ ?_ <;> intro hn <;> first | replace hn := bp_true hn | replace hn := bp_false hn))|((with_reducible refine g_idx ?_);((first|refine ix ?_|refine ixi ?_|(refine ixg ?_;intro _ _)|(refine ixgi ?_;intro _ _));first|rintro _ _ _ _ _ ⟨rfl,rfl⟩ _|rintro _ _ _ _ _ ⟨_,rfl,_⟩ _|rintro _ _ _ _ _ ⟨_,_,_,_,rfl,rfl,_,_⟩ _|intro _ _ _ _ _ _ _))|(refine sx ?_;intro _ _)|((with_reducible refine g_awp ?_);simp only [g0,g1,g2]))
        all_goals first
          | (refine pf fun k => ?_; obtain ⟨-, h5, r5, hl5, -⟩ := k; rw [locks_mono (locks_f2 hlk ht (takeR_f (by assumption) (by assumption))) (by omega)] at hl5; cases hl5)
          | exact ⟨by omega, _, _, _, _, rfl, by omega, ext_auto, om_auto, hlen, locks_s hlk ht hsS (takeR_y (by assumption) (by assumption)), slr_auto, ol_auto, upS hu ht hD⟩
          | exact ⟨by omega, _, _, _, _, rfl, by omega, ext_auto, om_auto, hlen, locks_s hlk ht hsS (takeR_n (by assumption)), slr_auto, ol_auto, upS hu ht hD⟩
  · have ei : i = x.tasks.length := by omega
    subst ei
    have hu := upEnd hu
    (repeat' first|refine vs ?_|(refine br ?_ ?_<;>intro _<;>try(exfalso;first|omega|contradiction))|((with_reducible refine g_idx ?_);((first|refine ix ?_|refine ixi ?_|(refine ixg ?_;intro _ _)|(refine ixgi ?_;intro _ _));first|rintro _ _ _ _ _ ⟨rfl,rfl⟩ _|rintro _ _ _ _ _ ⟨_,rfl,_⟩ _|rintro _ _ _ _ _ ⟨_,_,_,_,rfl,rfl,_,_⟩ _|intro _ _ _ _ _ _ _))|(refine sx ?_;intro _ _)|((with_reducible refine g_awp ?_);simp only [g0,g1,g2]))
    refine aw_upto x.st.length (fun i vs h3 => vs = [.int .i64 (i : Int)] ∧ i ≤ x.st.length ∧ Ext h2 h3 ∧ Upto x.st (fun i s => hs'[i]? = some s.held) i) ⟨rfl, Nat.zero_le _, Ext.refl _, up0⟩ ?_
    rintro i vs h3 _ ⟨rfl, hi3, e3, hu3⟩
    simp only [g0]
    refine vs ?_
    refine br (fun hlt => ?_) (fun hge3 => ?_)
    · obtain ⟨s, hx, -, -⟩ := drop_step (show i < x.st.length by omega)
      obtain ⟨y, hy, -, -⟩ := drop_step (show i < hs'.length by omega)
      (repeat' first|refine vs ?_|(refine br ?_ ?_<;>intro _<;>try(exfalso;first|omega|contradiction))|((with_reducible refine g_idx ?_);((first|refine ix ?_|refine ixi ?_|(refine ixg ?_;intro _ _)|(refine ixgi ?_;intro _ _));first|rintro _ _ _ _ _ ⟨rfl,rfl⟩ _|rintro _ _ _ _ _ ⟨_,rfl,_⟩ _|rintro _ _ _ _ _ ⟨_,_,_,_,rfl,rfl,_,_⟩ _|intro _ _ _ _ _ _ _))|(refine sx ?_;intro _ _)|((with_reducible refine g_awp ?_);simp only [g0,g1,g2]))
      · exact pf fun k => by
          obtain ⟨-, h5, r5, hl5, hh, -⟩ := k
          rw [hlk] at hl5; cases hl5
          have := hh i s hx
          rw [hy] at this; cases this
          contradiction
      · exact ⟨by omega, rfl, by omega, ext_auto, upS hu3 hx (by rw [hy]; congr 1; omega)⟩
    · rw [show i = x.st.length by omega] at hu3
      have hu3 := upEnd hu3
      (repeat' first|refine vs ?_|(refine br ?_ ?_<;>intro _<;>try(exfalso;first|omega|contradiction))|((with_reducible refine g_idx ?_);((first|refine ix ?_|refine ixi ?_|(refine ixg ?_;intro _ _)|(refine ixgi ?_;intro _ _));first|rintro _ _ _ _ _ ⟨rfl,rfl⟩ _|rintro _ _ _ _ _ ⟨_,rfl,_⟩ _|rintro _ _ _ _ _ ⟨_,_,_,_,rfl,rfl,_,_⟩ _|intro _ _ _ _ _ _ _))|(refine sx ?_;intro _ _)|((with_reducible refine g_awp ?_);simp only [g0,g1,g2]))
      · exact pt ⟨hu, _, _, hlk, hu3, by assumption⟩
      · exact pf fun k => by
          obtain ⟨-, h5, r5, hl5, hh, hr⟩ := k
          rw [hlk] at hl5; cases hl5
          contradiction
end Go.Proofs.YtjnekdbdmoibgaaGreat
end
section
/- Worlds: the stamps, and what is due. -/
set_option linter.unusedSimpArgs false
set_option linter.unusedVariables false
set_option maxHeartbeats 8000000
namespace Go.Proofs.YtjnekdbdmoibgaaGreat
open Go Go.Ab
section
/- spec.l16Known -/
def p_spec_l16Known (x0 x1 x2 : AV) : Prog := .op (.box x0) fun v1 => .op (.fad 22 v1) fun v2 => .op (.ldn 4 v2) fun v3 => .op (.fad 26 v1) fun v4 => .op (.ld1 v4) fun v5 => .op (.call n_spec_Timers [v3]) fun v6 => .chk (.ld1 v4) v5 (.op (.app 3 24 v6 v5) fun v7 => .loop [AV.int .i64 0] (fun vs8 => .op (.len 0 v7) fun v10 => .op (.bin 0 .lss (g vs8 0) v10) fun v11 => .ite v11 (.op (.idx 3 v7 (g vs8 0)) fun v12 => .op (.fad 0 v12) fun v13 => .op (.ld1 v13) fun v14 => .op (.bin 0 .eql v14 x2) fun v15 => .gop v15 true (.mv v7) fun v16 => .gop v15 true (.mv (g vs8 0)) fun v17 => .gop v15 true (.idx 3 v16 v17) fun v18 => .gop v15 true (.fad 1 v18) fun v19 => .gop v15 true (.ld1 v19) fun v20 => .gop v15 true (.mv x1) fun v21 => .gop v15 true (.bin 0 .eql v20 v21) fun v22 => .op (.pick v15 v22 (AV.bool false)) fun v23 => .ite v23 (.fin [.val (AV.bool true)]) (.op (.bin 0 .add (g vs8 0) (AV.int .i64 1)) fun v24 => .leaf 0 [v24])) (.leaf 2 [g vs8 0])) fun t9 vs8 => tsel t9 1 (.leaf 1 vs8) (tsel t9 2 (.loop [AV.int .i64 0] (fun vs25 => .op (.fad 29 v1) fun v27 => .op (.ld1 v27) fun v28 => .op (.len 0 v28) fun v29 => .op (.bin 0 .lss (g vs25 0) v29) fun v30 => .ite v30 (.op (.fad 29 v1) fun v31 => .op (.ld1 v31) fun v32 => .op (.idx 12 v32 (g vs25 0)) fun v33 => .op (.fad 0 v33) fun v34 => .op (.ld1 v34) fun v35 => .op (.bin 0 .eql v35 (AV.int .i64 2)) fun v36 => .gop v36 true (.fad 29 v1) fun v37 => .gop v36 true (.ld1 v37) fun v38 => .gop v36 true (.mv (g vs25 0)) fun v39 => .gop v36 true (.idx 12 v38 v39) fun v40 => .gop v36 true (.fad 1 v40) fun v41 => .gop v36 true (.ld1 v41) fun v42 => .gop v36 true (.bin 0 .neq v42 (AV.int .i64 3)) fun v43 => .op (.pick v36 v43 (AV.bool false)) fun v44 => .gop v44 true (.fad 29 v1) fun v45 => .gop v44 true (.ld1 v45) fun v46 => .gop v44 true (.mv (g vs25 0)) fun v47 => .gop v44 true (.idx 12 v46 v47) fun v48 => .gop v44 true (.fad 9 v48) fun v49 => .gop v44 true (.ld1 v49) fun v50 => .gop v44 true (.mv x2) fun v51 => .gop v44 true (.bin 0 .eql v50 v51) fun v52 => .op (.pick v44 v52 (AV.bool false)) fun v53 => .gop v53 true (.fad 29 v1) fun v54 => .gop v53 true (.ld1 v54) fun v55 => .gop v53 true (.mv (g vs25 0)) fun v56 => .gop v53 true (.idx 12 v55 v56) fun v57 => .gop v53 true (.fad 8 v57) fun v58 => .gop v53 true (.ld1 v58) fun v59 => .gop v53 true (.mv x1) fun v60 => .gop v53 true (.bin 0 .eql v59 v60) fun v61 => .op (.pick v53 v61 (AV.bool false)) fun v62 => .ite v62 (.fin [.val (AV.bool true)]) (.op (.bin 0 .add (g vs25 0) (AV.int .i64 1)) fun v63 => .leaf 0 [v63])) (.leaf 4 [g vs25 0])) fun t26 vs25 => tsel t26 1 (.leaf 1 vs25) (tsel t26 4 (.fin [.val (AV.bool false)]) .bad)) .bad))
theorem c_spec_l16Known (x0 x1 x2 : AV) : CC Tryz.prog n_spec_l16Known [x0, x1, x2] (p_spec_l16Known x0 x1 x2) := cc Tryz.func195 [1, 2, 3, 7, 8, 9] (fun r => if r = 1 then [(0, []), (1, []), (3, []), (4, []), (2, [4]), (5, []), (6, [])] else []) (by kernel_rfl)
/- spec.l16Stamps -/
abbrev q_spec_l16Stamps_1 (v24 : AV) (v23 : AV) (v1 : AV) (vs8 : List AV) : Prog := .op (.st 4 v24 v23) fun v25 => .op (.fad 1 v24) fun v26 => .op (.ld1 v26) fun v27 => .op (.fad 31 v1) fun v28 => .op (.ld1 v28) fun v29 => .op (.bin 0 .geq v27 v29) fun v30 => .gop v30 false (.ldn 32 v1) fun v31 => .gop v30 false (.fad 0 v24) fun v32 => .gop v30 false (.ld1 v32) fun v33 => .gop v30 false (.fad 1 v24) fun v34 => .gop v30 false (.ld1 v34) fun v35 => .gop v30 false (.call n_spec_l16Known [v31, v33, v35]) fun v36 => .gop v30 false (.una .not v36) fun v37 => .op (.pick v30 (AV.bool true) v37) fun v38 => .ite v38 (.fin [.val (AV.bool false)]) (.op (.bin 0 .add (g vs8 0) (AV.int .i64 1)) fun v39 => .leaf 0 [v39])
abbrev q_spec_l16Stamps_2 (v73 : AV) (v76 : AV) (vs62 : List AV) : Prog := .gop v73 false (.fad 1 v76) fun v77 => .gop v73 false (.ld1 v77) fun v78 => .gop v73 false (.call n_spec_l1In [v78, AV.int .i64 1, AV.int .i64 999]) fun v79 => .gop v73 false (.una .not v79) fun v80 => .op (.pick v73 (AV.bool true) v80) fun v81 => .ite v81 (.fin [.val (AV.bool false)]) (.op (.bin 0 .add (g vs62 0) (AV.int .i64 1)) fun v82 => .leaf 0 [v82])
def p_spec_l16Stamps (x0 : AV) : Prog := .op (.box x0) fun v1 => .loop [AV.int .i64 0, .tup []] (fun vs2 => .op (.fad 14 v1) fun v4 => .op (.ld1 v4) fun v5 => .op (.len 0 v5) fun v6 => .op (.bin 0 .lss (g vs2 0) v6) fun v7 => .ite v7 (.loop [AV.int .i64 0] (fun vs8 => .op (.fad 14 v1) fun v10 => .op (.ld1 v10) fun v11 => .op (.idx 2 v11 (g vs2 0)) fun v12 => .op (.fad 1 v12) fun v13 => .op (.ld1 v13) fun v14 => .op (.len 0 v14) fun v15 => .op (.bin 0 .lss (g vs8 0) v15) fun v16 => .ite v16 (.op (.fad 14 v1) fun v17 => .op (.ld1 v17) fun v18 => .op (.idx 2 v18 (g vs2 0)) fun v19 => .op (.fad 1 v19) fun v20 => .op (.ld1 v20) fun v21 => .op (.idx 4 v21 (g vs8 0)) fun v22 => .op (.ldn 4 v22) fun v23 => .op (.alloc [AV.int .i64 0, AV.int .i64 0, AV.int .i64 0, AV.nils]) fun v24 => q_spec_l16Stamps_1 v24 v23 v1 vs8) (.leaf 4 [g vs8 0])) fun t9 vs8 => tsel t9 1 (.leaf 1 vs8) (tsel t9 4 (.op (.bin 0 .add (g vs2 0) (AV.int .i64 1)) fun v40 => .leaf 0 [v40, g vs8 0]) .bad)) (.leaf 2 [g vs2 0, g vs2 1])) fun t3 vs2 => tsel t3 1 (.leaf 1 vs2) (tsel t3 2 (.loop [AV.int .i64 0] (fun vs41 => .op (.fad 20 v1) fun v43 => .op (.ld1 v43) fun v44 => .op (.len 0 v44) fun v45 => .op (.bin 0 .lss (g vs41 0) v45) fun v46 => .ite v46 (.op (.fad 20 v1) fun v47 => .op (.ld1 v47) fun v48 => .op (.idx 3 v48 (g vs41 0)) fun v49 => .op (.fad 1 v49) fun v50 => .op (.ld1 v50) fun v51 => .op (.fad 31 v1) fun v52 => .op (.ld1 v52) fun v53 => .op (.bin 0 .geq v51 v53) fun v54 => .ite v54 (.fin [.val (AV.bool false)]) (.op (.bin 0 .add (g vs41 0) (AV.int .i64 1)) fun v55 => .leaf 0 [v55])) (.leaf 6 [g vs41 0])) fun t42 vs41 => tsel t42 1 (.leaf 1 vs41) (tsel t42 6 (.op (.fad 22 v1) fun v56 => .op (.ldn 4 v56) fun v57 => .op (.fad 26 v1) fun v58 => .op (.ld1 v58) fun v59 => .op (.call n_spec_Timers [v57]) fun v60 => .chk (.ld1 v58) v59 (.op (.app 3 24 v60 v59) fun v61 => .loop [AV.int .i64 0] (fun vs62 => .op (.len 0 v61) fun v64 => .op (.bin 0 .lss (g vs62 0) v64) fun v65 => .ite v65 (.op (.idx 3 v61 (g vs62 0)) fun v66 => .op (.fad 0 v66) fun v67 => .op (.ld1 v67) fun v68 => .op (.fad 31 v1) fun v69 => .op (.ld1 v69) fun v70 => .op (.bin 0 .sub v70 (AV.int .i64 1)) fun v71 => .op (.call n_spec_l1In [v68, AV.int .i64 1, v71]) fun v72 => .op (.una .not v72) fun v73 => .gop v73 false (.mv v61) fun v74 => .gop v73 false (.mv (g vs62 0)) fun v75 => .gop v73 false (.idx 3 v74 v75) fun v76 => q_spec_l16Stamps_2 v73 v76 vs62) (.leaf 8 [g vs62 0])) fun t63 vs62 => tsel t63 1 (.leaf 1 vs62) (tsel t63 8 (.fin [.val (AV.bool true)]) .bad))) .bad)) .bad)
theorem c_spec_l16Stamps (x0 : AV) : CC Tryz.prog n_spec_l16Stamps [x0] (p_spec_l16Stamps x0) := cc Tryz.func122 [1, 3, 4, 6, 7, 8] (fun r => if r = 13 then [(0, []), (1, []), (2, []), (3, []), (4, []), (5, []), (6, []), (7, []), (8, [])] else if r = 15 then [(0, []), (1, []), (3, []), (4, []), (2, [4]), (5, []), (6, [])] else if r = 19 then [(0, []), (1, []), (2, []), (3, []), (4, []), (5, []), (6, []), (7, []), (8, []), (9, []), (10, []), (11, []), (12, []), (13, []), (14, []), (15, []), (16, []), (17, []), (18, [])] else []) (by kernel_rfl)
end
def allTm (x : Wld) : List Ab.Timer := timers x.w ++ x.due
def isJ (id stamp : Int) (t : Task) : Prop := t.op = 2 ∧ t.pc ≠ 3 ∧ t.stamp = stamp ∧ t.trace = id
def known (x : Wld) (id stamp : Int) : Prop := (∃ t ∈ allTm x, t.id = stamp ∧ t.trace = id) ∨ ∃ t ∈ x.tasks, isJ id stamp t
theorem timers_b (w : Wheel) : (timers w).length ≤ Sz.sz w := by
  have h0 := flat_b w.near
  have h1 := flat_b w.far
  have hsz : Sz.sz w = (w.near.length + szs w.near) + (w.far.length + szs w.far) + (w.rest.length + szs w.rest) := rfl
  unfold timers
  simp only [List.length_append]; omega
theorem upNo {α : Type} {l : List α} {p : α → Prop} (h : ∀ y ∈ l, ¬ p y) : ¬ ∃ y ∈ l, p y := fun ⟨y, hy, hp⟩ => h y hy hp
theorem s_spec_l16Known {h : AH} {x : Wld} {cs : List AV} {F : List Nat} {id stamp : Int} (hs : Sz.sz x ≤ 67108864) (r : Cel.rep h x cs F) :
    RCalls Tryz.prog n_spec_l16Known [.agg cs, .int .i64 id, .int .i64 stamp] h (.bool (bp (known x id stamp))) := by
  obtain ⟨v0, v1, v2, v3, v4, v5, v6, v7, v8, v9, v10, F0, F1, F2, F3, F4, F5, F6, F7, F8, F9, F10, rfl, rfl, r0, r1, r2, r3, r4, r5, r6, r7, r8, r9, r10⟩ := r
  have hs : Sz.sz x.c + (x.st.length + szs x.st) + (x.cache.length + szs x.cache) + Sz.sz x.w + (x.due.length + szs x.due) + (x.queue.length + szs x.queue) + (x.out.length + szs x.out) + (x.tasks.length + szs x.tasks) + (x.deeds.length + szs x.deeds) ≤ 67108864 := hs
  have hl9 := r9.small
  have htb := timers_b x.w
  refine reader (c_spec_l16Known _ _ _) (by simp only [old]) ?_
  unfold p_spec_l16Known
  (repeat' first|refine vs ?_|(refine br ?_ ?_<;>intro _<;>try(exfalso;first|omega|contradiction))|((with_reducible refine g_idx ?_);((first|refine ix ?_|refine ixi ?_|(refine ixg ?_;intro _ _)|(refine ixgi ?_;intro _ _));first|rintro _ _ _ _ _ ⟨rfl,rfl⟩ _|rintro _ _ _ _ _ ⟨_,rfl,_⟩ _|rintro _ _ _ _ _ ⟨_,_,_,_,rfl,rfl,_,_⟩ _|intro _ _ _ _ _ _ _))|(refine sx ?_;intro _ _)|((with_reducible refine g_awp ?_);simp only [g0,g1,g2]))
  refine aw_call (s_spec_Timers (w := x.w) om_auto slr_auto slr_auto slr_auto) ?_
  rintro u h1 ⟨e1, G1, q1, o1⟩
  have n1 := e1.1
  simp only [push_n] at n1 o1
  refine vs ?_
  refine app2F (n := h.n + 1) (xs := timers x.w) (ys := x.due) (Fx := G1) q1 (slr_auto : SlRep _ v6 x.due F6) o1 om_auto rfl (by omega) (by omega) ?_
  intro v h2 G2 ek kp q2 o2
  have e2 := ek _ e1 (by simp)
  have n2 := e2.1
  simp only [push_n] at n2
  have hlen : (timers x.w ++ x.due).length = (timers x.w).length + x.due.length := by simp
  clear ek kp
  refine aw_upto (timers x.w ++ x.due).length (fun i vs h3 => vs = [.int .i64 (i : Int)] ∧ i ≤ (timers x.w ++ x.due).length ∧ h3 = h2 ∧ Upto (timers x.w ++ x.due) (fun _ t => ¬ (t.id = stamp ∧ t.trace = id)) i) ⟨rfl, Nat.zero_le _, rfl, up0⟩ ?_
  rintro i vs h3 _ ⟨rfl, hi, rfl, hu⟩
  simp only [g0]
  refine vs ?_
  refine br (fun hlt => ?_) (fun hge => ?_)
  · obtain ⟨t, ht, -, -⟩ := drop_step (show i < (timers x.w ++ x.due).length by omega)
    (repeat' first|refine vs ?_|(refine br ?_ ?_<;>intro _<;>try(exfalso;first|omega|contradiction))|((with_reducible refine g_idx ?_);((first|refine ix ?_|refine ixi ?_|(refine ixg ?_;intro _ _)|(refine ixgi ?_;intro _ _));first|rintro _ _ _ _ _ ⟨rfl,rfl⟩ _|rintro _ _ _ _ _ ⟨_,rfl,_⟩ _|rintro _ _ _ _ _ ⟨_,_,_,_,rfl,rfl,_,_⟩ _|intro _ _ _ _ _ _ _))|(refine sx ?_;intro _ _)|((with_reducible refine g_awp ?_);simp only [g0,g1,g2]))
    all_goals first
      | exact pt (.inl ⟨t, List.mem_of_getElem? ht, by omega, by omega⟩)
      | exact ⟨by omega, rfl, by omega, rfl, upS hu ht (by omega)⟩
  rw [show i = (timers x.w ++ x.due).length by omega] at hu
  have hu := upAll hu
  (repeat' first|refine vs ?_|(refine br ?_ ?_<;>intro _<;>try(exfalso;first|omega|contradiction))|((with_reducible refine g_idx ?_);((first|refine ix ?_|refine ixi ?_|(refine ixg ?_;intro _ _)|(refine ixgi ?_;intro _ _));first|rintro _ _ _ _ _ ⟨rfl,rfl⟩ _|rintro _ _ _ _ _ ⟨_,rfl,_⟩ _|rintro _ _ _ _ _ ⟨_,_,_,_,rfl,rfl,_,_⟩ _|intro _ _ _ _ _ _ _))|(refine sx ?_;intro _ _)|((with_reducible refine g_awp ?_);simp only [g0,g1,g2]))
  refine aw_upto x.tasks.length (fun i vs h4 => vs = [.int .i64 (i : Int)] ∧ i ≤ x.tasks.length ∧ h4 = h3 ∧ Upto x.tasks (fun _ t => ¬ isJ id stamp t) i) ⟨rfl, Nat.zero_le _, rfl, up0⟩ ?_
  clear hi hge
  rintro i vs h4 _ ⟨rfl, hi, rfl, hu2⟩
  simp only [g0]
  refine vs ?_
  refine br (fun hlt => ?_) (fun hge => ?_)
  · obtain ⟨t, ht, -, -⟩ := drop_step (show i < x.tasks.length by omega)
    (repeat' first|refine vs ?_|(refine br ?_ ?_<;>intro _<;>try(exfalso;first|omega|contradiction))|((with_reducible refine g_idx ?_);((first|refine ix ?_|refine ixi ?_|(refine ixg ?_;intro _ _)|(refine ixgi ?_;intro _ _));first|rintro _ _ _ _ _ ⟨rfl,rfl⟩ _|rintro _ _ _ _ _ ⟨_,rfl,_⟩ _|rintro _ _ _ _ _ ⟨_,_,_,_,rfl,rfl,_,_⟩ _|intro _ _ _ _ _ _ _))|(refine sx ?_;intro _ _)|((with_reducible refine g_awp ?_);simp only [g0,g1,g2]))
    all_goals first
      | exact pt (.inr ⟨t, List.mem_of_getElem? ht, by unfold isJ; omega⟩)
      | exact ⟨by omega, rfl, by omega, rfl, upS hu2 ht (by unfold isJ; omega)⟩
  rw [show i = x.tasks.length by omega] at hu2
  have hu2 := upAll hu2
  (repeat' first|refine vs ?_|(refine br ?_ ?_<;>intro _<;>try(exfalso;first|omega|contradiction))|((with_reducible refine g_idx ?_);((first|refine ix ?_|refine ixi ?_|(refine ixg ?_;intro _ _)|(refine ixgi ?_;intro _ _));first|rintro _ _ _ _ _ ⟨rfl,rfl⟩ _|rintro _ _ _ _ _ ⟨_,rfl,_⟩ _|rintro _ _ _ _ _ ⟨_,_,_,_,rfl,rfl,_,_⟩ _|intro _ _ _ _ _ _ _))|(refine sx ?_;intro _ _)|((with_reducible refine g_awp ?_);simp only [g0,g1,g2]))
  refine pf ?_
  rintro (k | k)
  · exact upNo hu k
  · exact upNo hu2 k

def stampsS (x : Wld) : Prop := (∀ (i : Nat) (s : Stripe), x.st[i]? = some s → ∀ t ∈ s.l, t.stamp < x.next ∧ known x t.id t.stamp) ∧ (∀ v ∈ x.cache, v.stamp < x.next) ∧ ∀ t ∈ allTm x, (1 ≤ t.id ∧ t.id ≤ x.next - 1) ∧ (1 ≤ t.trace ∧ t.trace ≤ 999)
theorem s_spec_l16Stamps {h : AH} {x : Wld} {cs : List AV} {F : List Nat} (hnx : 1 ≤ x.next) (ok : Cel.ok x) (hs : Sz.sz x ≤ 67108864) (r : Cel.rep h x cs F) :
    RCalls Tryz.prog n_spec_l16Stamps [.agg cs] h (.bool (bp (stampsS x))) := by
  have hs0 := hs
  obtain ⟨v0, v1, v2, v3, v4, v5, v6, v7, v8, v9, v10, F0, F1, F2, F3, F4, F5, F6, F7, F8, F9, F10, rfl, rfl, r0, r1, r2, r3, r4, r5, r6, r7, r8, r9, r10⟩ := r
  obtain ⟨ok_c, ok_time, ok_st, ok_ruleHeld, ok_b, ok_cache, ok_used, ok_w, ok_due, ok_queue, ok_out, ok_tasks, ok_deeds, ok_next⟩ := ok
  have hs : Sz.sz x.c + (x.st.length + szs x.st) + (x.cache.length + szs x.cache) + Sz.sz x.w + (x.due.length + szs x.due) + (x.queue.length + szs x.queue) + (x.out.length + szs x.out) + (x.tasks.length + szs x.tasks) + (x.deeds.length + szs x.deeds) ≤ 67108864 := hs
  have ok_next : -9223372036854775808 ≤ x.next ∧ x.next ≤ 9223372036854775807 := ok_next
  have hl1 := r1.small
  have hl2 := r2.small
  have htb := timers_b x.w
  refine reader (c_spec_l16Stamps _) (by simp only [old]) ?_
  unfold p_spec_l16Stamps
  (repeat' first|refine vs ?_|(refine br ?_ ?_<;>intro _<;>try(exfalso;first|omega|contradiction))|((with_reducible refine g_idx ?_);((first|refine ix ?_|refine ixi ?_|(refine ixg ?_;intro _ _)|(refine ixgi ?_;intro _ _));first|rintro _ _ _ _ _ ⟨rfl,rfl⟩ _|rintro _ _ _ _ _ ⟨_,rfl,_⟩ _|rintro _ _ _ _ _ ⟨_,_,_,_,rfl,rfl,_,_⟩ _|intro _ _ _ _ _ _ _))|(refine sx ?_;intro _ _)|((with_reducible refine g_awp ?_);simp only [g0,g1,g2]))
  refine aw_upto x.st.length (fun i vs h1 => ∃ z, vs = [.int .i64 (i : Int), z] ∧ i ≤ x.st.length ∧ Ext (h.push ⟨(x.cs v0 v1 v2 v3 v4 v5 v6 v7 v8 v9 v10), 0, 0⟩) h1 ∧ Upto x.st (fun _ s => ∀ t ∈ s.l, t.stamp < x.next ∧ known x t.id t.stamp) i) ⟨_, rfl, Nat.zero_le _, ext_auto, up0⟩ ?_
  rintro i vs h1 _ ⟨z, rfl, hi, e1, hu⟩
  simp only [g0, g1]
  refine vs ?_
  refine br (fun hlt => ?_) (fun hge => ?_)
  · obtain ⟨s, hx, -, -⟩ := drop_step (show i < x.st.length by omega)
    have hm := szs_mem (List.mem_of_getElem? hx)
    have hx2 : Sz.sz s = s.l.length + szs s.l := rfl
    refine vs ?_
    refine aw_upto s.l.length (fun k vs h2 => vs = [.int .i64 (k : Int)] ∧ k ≤ s.l.length ∧ Ext h1 h2 ∧ Upto s.l (fun _ t => t.stamp < x.next ∧ known x t.id t.stamp) k) ⟨rfl, Nat.zero_le _, Ext.refl _, up0⟩ ?_
    rintro k vs h2 _ ⟨rfl, hk, e2, hu2⟩
    simp only [g0]
    refine vs ?_
    refine aw_idx r1 hx rfl ?_
    rintro b o _ Fi a ⟨vs1, rfl, rs⟩ _
    refine vs ?_
    refine br (fun hlt2 => ?_) (fun hge2 => ?_)
    · obtain ⟨t, ht, -, -⟩ := drop_step (show k < s.l.length by omega)
      (repeat' first|refine vs ?_|(refine br ?_ ?_<;>intro _<;>try(exfalso;first|omega|contradiction))|((with_reducible refine g_callf n_spec_l16Known ?_);(refine aw_rcall_b (s_spec_l16Known (x := x) hs0 ⟨_, _, _, _, _, _, _, _, _, _, _, _, _, _, _, _, _, _, _, _, _, _, rfl, rfl, slr_auto, slr_auto, slr_auto, slr_auto, slr_auto, slr_auto, slr_auto, slr_auto, slr_auto, slr_auto, slr_auto⟩) ?_ ?_ <;> intro hn <;> first | replace hn := bp_true hn | replace hn := bp_false hn))|((with_reducible refine g_idx ?_);((first|refine ix ?_|refine ixi ?_|(refine ixg ?_;intro _ _)|(refine ixgi ?_;intro _ _));first|rintro _ _ _ _ _ ⟨rfl,rfl⟩ _|rintro _ _ _ _ _ ⟨_,rfl,_⟩ _|rintro _ _ _ _ _ ⟨_,_,_,_,rfl,rfl,_,_⟩ _|intro _ _ _ _ _ _ _))|(refine sx ?_;intro _ _)|((with_reducible refine g_awp ?_);simp only [g0,g1,g2]))
      all_goals first
        | (refine pf fun kk => ?_; have kk := kk.1 i s hx t (List.mem_of_getElem? ht); first | omega | exact absurd kk.2 (by assumption))
        | exact ⟨by omega, rfl, by omega, ext_auto, upS hu2 ht ⟨by omega, by assumption⟩⟩
    · rw [show k = s.l.length by omega] at hu2
      have hu2 := upAll hu2
      (repeat' first|refine vs ?_|(refine br ?_ ?_<;>intro _<;>try(exfalso;first|omega|contradiction))|((with_reducible refine g_idx ?_);((first|refine ix ?_|refine ixi ?_|(refine ixg ?_;intro _ _)|(refine ixgi ?_;intro _ _));first|rintro _ _ _ _ _ ⟨rfl,rfl⟩ _|rintro _ _ _ _ _ ⟨_,rfl,_⟩ _|rintro _ _ _ _ _ ⟨_,_,_,_,rfl,rfl,_,_⟩ _|intro _ _ _ _ _ _ _))|(refine sx ?_;intro _ _)|((with_reducible refine g_awp ?_);simp only [g0,g1,g2]))
      exact ⟨by omega, _, rfl, by omega, ext_auto, upS hu hx hu2⟩
  rw [show i = x.st.length by omega] at hu
  have hA := upEnd hu
  clear hu hi hge
  (repeat' first|refine vs ?_|(refine br ?_ ?_<;>intro _<;>try(exfalso;first|omega|contradiction))|((with_reducible refine g_idx ?_);((first|refine ix ?_|refine ixi ?_|(refine ixg ?_;intro _ _)|(refine ixgi ?_;intro _ _));first|rintro _ _ _ _ _ ⟨rfl,rfl⟩ _|rintro _ _ _ _ _ ⟨_,rfl,_⟩ _|rintro _ _ _ _ _ ⟨_,_,_,_,rfl,rfl,_,_⟩ _|intro _ _ _ _ _ _ _))|(refine sx ?_;intro _ _)|((with_reducible refine g_awp ?_);simp only [g0,g1,g2]))
  refine aw_upto x.cache.length (fun i vs h2 => vs = [.int .i64 (i : Int)] ∧ i ≤ x.cache.length ∧ h2 = h1 ∧ Upto x.cache (fun _ v => v.stamp < x.next) i) ⟨rfl, Nat.zero_le _, rfl, up0⟩ ?_
  rintro i vs h2 _ ⟨rfl, hi, rfl, hu⟩
  simp only [g0]
  refine vs ?_
  refine br (fun hlt => ?_) (fun hge => ?_)
  · obtain ⟨t, ht, -, -⟩ := drop_step (show i < x.cache.length by omega)
    (repeat' first|refine vs ?_|(refine br ?_ ?_<;>intro _<;>try(exfalso;first|omega|contradiction))|((with_reducible refine g_idx ?_);((first|refine ix ?_|refine ixi ?_|(refine ixg ?_;intro _ _)|(refine ixgi ?_;intro _ _));first|rintro _ _ _ _ _ ⟨rfl,rfl⟩ _|rintro _ _ _ _ _ ⟨_,rfl,_⟩ _|rintro _ _ _ _ _ ⟨_,_,_,_,rfl,rfl,_,_⟩ _|intro _ _ _ _ _ _ _))|(refine sx ?_;intro _ _)|((with_reducible refine g_awp ?_);simp only [g0,g1,g2]))
    all_goals first
      | (refine pf fun kk => ?_; have kk := kk.2.1 t (List.mem_of_getElem? ht); omega)
      | exact ⟨by omega, rfl, by omega, rfl, upS hu ht (by omega)⟩
  rw [show i = x.cache.length by omega] at hu
  have hB := upAll hu
  clear hu hi hge
  (repeat' first|refine vs ?_|(refine br ?_ ?_<;>intro _<;>try(exfalso;first|omega|contradiction))|((with_reducible refine g_idx ?_);((first|refine ix ?_|refine ixi ?_|(refine ixg ?_;intro _ _)|(refine ixgi ?_;intro _ _));first|rintro _ _ _ _ _ ⟨rfl,rfl⟩ _|rintro _ _ _ _ _ ⟨_,rfl,_⟩ _|rintro _ _ _ _ _ ⟨_,_,_,_,rfl,rfl,_,_⟩ _|intro _ _ _ _ _ _ _))|(refine sx ?_;intro _ _)|((with_reducible refine g_awp ?_);simp only [g0,g1,g2]))
  refine aw_call (s_spec_Timers (w := x.w) om_auto slr_auto slr_auto slr_auto) ?_
  rintro u h3 ⟨e3, G1, q1, o1⟩
  have n1 := e1.1
  have n3 := e3.1
  simp only [push_n] at n1
  refine vs ?_
  refine app2F (n := h.n + 1) (xs := timers x.w) (ys := x.due) (Fx := G1) q1 (slr_auto : SlRep _ v6 x.due F6) (o1.mono (by omega) fun _ _ => rfl) om_auto rfl (by omega) (by omega) ?_
  intro v h4 G2 ek kp q2 o2
  have e4 := ek _ (ext_auto : Ext (h.push ⟨(x.cs v0 v1 v2 v3 v4 v5 v6 v7 v8 v9 v10), 0, 0⟩) h3) (by simp)
  have n4 := e4.1
  simp only [push_n] at n4
  have hlen : (timers x.w ++ x.due).length = (timers x.w).length + x.due.length := by simp
  clear ek kp
  refine aw_upto (timers x.w ++ x.due).length (fun i vs h5 => vs = [.int .i64 (i : Int)] ∧ i ≤ (timers x.w ++ x.due).length ∧ h5 = h4 ∧ Upto (timers x.w ++ x.due) (fun _ t => (1 ≤ t.id ∧ t.id ≤ x.next - 1) ∧ (1 ≤ t.trace ∧ t.trace ≤ 999)) i) ⟨rfl, Nat.zero_le _, rfl, up0⟩ ?_
  rintro i vs h5 _ ⟨rfl, hi, rfl, hu⟩
  simp only [g0]
  refine vs ?_
  refine br (fun hlt => ?_) (fun hge => ?_)
  · obtain ⟨t, ht, -, -⟩ := drop_step (show i < (timers x.w ++ x.due).length by omega)
    (repeat' first|refine vs ?_|(refine br ?_ ?_<;>intro _<;>try(exfalso;first|omega|contradiction))|((with_reducible refine g_callf n_spec_l1In ?_);(refine aw_rcall_b (s_spec_l1In) ?_ ?_ <;> intro hb <;> (first | replace hb := inB_t hb | replace hb := inB_f hb)))|((with_reducible refine g_idx ?_);((first|refine ix ?_|refine ixi ?_|(refine ixg ?_;intro _ _)|(refine ixgi ?_;intro _ _));first|rintro _ _ _ _ _ ⟨rfl,rfl⟩ _|rintro _ _ _ _ _ ⟨_,rfl,_⟩ _|rintro _ _ _ _ _ ⟨_,_,_,_,rfl,rfl,_,_⟩ _|intro _ _ _ _ _ _ _))|(refine sx ?_;intro _ _)|((with_reducible refine g_awp ?_);simp only [g0,g1,g2]))
    all_goals first
      | (refine pf fun kk => ?_; have kk := kk.2.2 t (List.mem_of_getElem? ht); omega)
      | exact ⟨by omega, rfl, by omega, rfl, upS hu ht (by omega)⟩
  rw [show i = (timers x.w ++ x.due).length by omega] at hu
  have hC := upAll hu
  (repeat' first|refine vs ?_|(refine br ?_ ?_<;>intro _<;>try(exfalso;first|omega|contradiction))|((with_reducible refine g_idx ?_);((first|refine ix ?_|refine ixi ?_|(refine ixg ?_;intro _ _)|(refine ixgi ?_;intro _ _));first|rintro _ _ _ _ _ ⟨rfl,rfl⟩ _|rintro _ _ _ _ _ ⟨_,rfl,_⟩ _|rintro _ _ _ _ _ ⟨_,_,_,_,rfl,rfl,_,_⟩ _|intro _ _ _ _ _ _ _))|(refine sx ?_;intro _ _)|((with_reducible refine g_awp ?_);simp only [g0,g1,g2]))
  exact pt ⟨hA, hB, hC⟩
end Go.Proofs.YtjnekdbdmoibgaaGreat
end
section
/- Worlds: the stamps, by the program. -/
set_option linter.unusedSimpArgs false
set_option linter.unusedVariables false
set_option maxHeartbeats 8000000
namespace Go.Proofs.YtjnekdbdmoibgaaGreat
open Go Go.Ab
section
/- impl.stampsOk$1 -/
def p_impl_stampsOk_1 (x0 x1 : AV) : Prog := .op (.box x0) fun v1 => .op (.fad 0 v1) fun v2 => .op (.ld1 v2) fun v3 => .op (.fad 1 x1) fun v4 => .op (.ld1 v4) fun v5 => .op (.bin 0 .eql v3 v5) fun v6 => .gop v6 true (.fad 1 v1) fun v7 => .gop v6 true (.ld1 v7) fun v8 => .gop v6 true (.fad 0 x1) fun v9 => .gop v6 true (.ld1 v9) fun v10 => .gop v6 true (.bin 0 .eql v8 v10) fun v11 => .op (.pick v6 v11 (AV.bool false)) fun v12 => .fin [.val v12]
theorem c_impl_stampsOk_1 (x0 x1 : AV) : CC Tryz.prog n_impl_stampsOk_1 [x0, x1] (p_impl_stampsOk_1 x0 x1) := cc Tryz.func225 [] (fun _ => []) (by kernel_rfl)
/- impl.stampsOk$2 -/
def p_impl_stampsOk_2 (x0 x1 : AV) : Prog := .op (.fad 31 x1) fun v1 => .op (.ld1 v1) fun v2 => .op (.bin 0 .geq x0 v2) fun v3 => .fin [.val v3]
theorem c_impl_stampsOk_2 (x0 x1 : AV) : CC Tryz.prog n_impl_stampsOk_2 [x0, x1] (p_impl_stampsOk_2 x0 x1) := cc Tryz.func227 [] (fun _ => []) (by kernel_rfl)
/- slices.ContainsFunc[[]impl.Timer,impl.Timer] -/
def p_slices_ContainsFunc_Timer (x0 x1 : AV) : Prog := .op (.call n_slices_IndexFunc_Timer [x0, x1]) fun v1 => .op (.bin 0 .geq v1 (AV.int .i64 0)) fun v2 => .fin [.val v2]
theorem c_slices_ContainsFunc_Timer (x0 x1 : AV) : CC Tryz.prog n_slices_ContainsFunc_Timer [x0, x1] (p_slices_ContainsFunc_Timer x0 x1) := cc Tryz.func224 [] (fun _ => []) (by kernel_rfl)
/- slices.IndexFunc[[]int,int] -/
def p_slices_IndexFunc_int (x0 x1 : AV) : Prog := .op (.len 0 x0) fun v1 => .loop [AV.int .i64 0] (fun vs2 => .op (.bin 0 .lss (g vs2 0) v1) fun v4 => .ite v4 (.op (.idx 1 x0 (g vs2 0)) fun v5 => .op (.ld1 v5) fun v6 => .op (.callv x1 [v6]) fun v7 => .ite v7 (.fin [.val (g vs2 0)]) (.op (.bin 0 .add (g vs2 0) (AV.int .i64 1)) fun v8 => .leaf 0 [v8])) (.leaf 2 [g vs2 0])) fun t3 vs2 => tsel t3 1 (.leaf 1 vs2) (tsel t3 2 (.fin [.val (AV.int .i64 (-1))]) .bad)
theorem c_slices_IndexFunc_int (x0 x1 : AV) : CC Tryz.prog n_slices_IndexFunc_int [x0, x1] (p_slices_IndexFunc_int x0 x1) := cc Tryz.func293 [0, 1, 7, 8] (fun _ => []) (by kernel_rfl)
/- slices.ContainsFunc[[]int,int] -/
def p_slices_ContainsFunc_int (x0 x1 : AV) : Prog := .op (.call n_slices_IndexFunc_int [x0, x1]) fun v1 => .op (.bin 0 .geq v1 (AV.int .i64 0)) fun v2 => .fin [.val v2]
theorem c_slices_ContainsFunc_int (x0 x1 : AV) : CC Tryz.prog n_slices_ContainsFunc_int [x0, x1] (p_slices_ContainsFunc_int x0 x1) := cc Tryz.func226 [] (fun _ => []) (by kernel_rfl)
/- impl.stampsOk -/
abbrev q_impl_stampsOk_1 (v46 : AV) (vs39 : List AV) (v44 : AV) : Prog := .op (.ld1 v46) fun v47 => .op (.bslice 1 1 [AV.int .i64 0] [(0, 1, v47)]) fun v48 => .op (.app 1 8 (g vs39 0) v48) fun v49 => .op (.fad 0 v44) fun v50 => .op (.ld1 v50) fun v51 => .op (.bin 0 .eql v51 (AV.int .i64 2)) fun v52 => .gop v52 true (.fad 1 v44) fun v53 => .gop v52 true (.ld1 v53) fun v54 => .gop v52 true (.bin 0 .neq v54 (AV.int .i64 3)) fun v55 => .op (.pick v52 v55 (AV.bool false)) fun v56 => .scope (.ite v56 (.op (.fad 9 v44) fun v57 => .op (.ld1 v57) fun v58 => .op (.fad 8 v44) fun v59 => .op (.ld1 v59) fun v60 => .op (.build [AV.int .i64 0, AV.int .i64 0, AV.int .i64 0] [(0, 1, v58), (1, 1, v60)]) fun v61 => .op (.bslice 3 1 [AV.int .i64 0, AV.int .i64 0, AV.int .i64 0] [(0, 3, v61)]) fun v62 => .op (.app 3 24 (g vs39 1) v62) fun v63 => .leaf 0 [v63]) (.leaf 0 [g vs39 1])) (fun vs64 => .op (.bin 0 .add (g vs39 2) (AV.int .i64 1)) fun v66 => .leaf 0 [v49, g vs64 0, v66]) fun t65 vs64 => tsel t65 1 (.leaf 1 vs64) .bad
abbrev q_impl_stampsOk_2 (v74 : AV) (vs71 : List AV) (vs39 : List AV) : Prog := .op (.ldn 4 v74) fun v75 => .op (.alloc [AV.int .i64 0, AV.int .i64 0, AV.int .i64 0, AV.nils]) fun v76 => .op (.st 4 v76 v75) fun v77 => .op (.fad 1 v76) fun v78 => .op (.ld1 v78) fun v79 => .op (.bslice 1 1 [AV.int .i64 0] [(0, 1, v79)]) fun v80 => .op (.app 1 8 (g vs71 0) v80) fun v81 => .op (.mkfn n_impl_stampsOk_1 [v76]) fun v82 => .op (.call n_slices_ContainsFunc_Timer [g vs39 1, v82]) fun v83 => .op (.una .not v83) fun v84 => .ite v84 (.fin [.val (AV.bool false)]) (.op (.bin 0 .add (g vs71 1) (AV.int .i64 1)) fun v85 => .leaf 0 [v81, v85])
def p_impl_stampsOk (x0 : AV) : Prog := .op (.box x0) fun v1 => .op (.fad 22 v1) fun v2 => .op (.ldn 4 v2) fun v3 => .op (.fad 26 v1) fun v4 => .op (.ld1 v4) fun v5 => .op (.call n_impl_Timers [v3]) fun v6 => .chk (.ld1 v4) v5 (.op (.app 3 24 v6 v5) fun v7 => .op (.len 0 v7) fun v8 => .loop [AV.nils, AV.int .i64 0] (fun vs9 => .op (.bin 0 .lss (g vs9 1) v8) fun v11 => .ite v11 (.op (.idx 3 v7 (g vs9 1)) fun v12 => .op (.ldn 3 v12) fun v13 => .op (.alloc [AV.int .i64 0, AV.int .i64 0, AV.int .i64 0]) fun v14 => .op (.st 3 v14 v13) fun v15 => .op (.fad 0 v14) fun v16 => .op (.ld1 v16) fun v17 => .op (.bslice 1 1 [AV.int .i64 0] [(0, 1, v17)]) fun v18 => .op (.app 1 8 (g vs9 0) v18) fun v19 => .op (.bin 0 .add (g vs9 1) (AV.int .i64 1)) fun v20 => .leaf 0 [v19, v20]) (.leaf 2 [g vs9 0, g vs9 1])) fun t10 vs9 => tsel t10 1 (.leaf 1 vs9) (tsel t10 2 (.op (.fad 20 v1) fun v21 => .op (.ld1 v21) fun v22 => .op (.len 0 v22) fun v23 => .loop [g vs9 0, AV.int .i64 0] (fun vs24 => .op (.bin 0 .lss (g vs24 1) v23) fun v26 => .ite v26 (.op (.idx 3 v22 (g vs24 1)) fun v27 => .op (.ldn 3 v27) fun v28 => .op (.alloc [AV.int .i64 0, AV.int .i64 0, AV.bool false]) fun v29 => .op (.st 3 v29 v28) fun v30 => .op (.fad 1 v29) fun v31 => .op (.ld1 v31) fun v32 => .op (.bslice 1 1 [AV.int .i64 0] [(0, 1, v32)]) fun v33 => .op (.app 1 8 (g vs24 0) v33) fun v34 => .op (.bin 0 .add (g vs24 1) (AV.int .i64 1)) fun v35 => .leaf 0 [v34, v35]) (.leaf 4 [g vs24 0, g vs24 1])) fun t25 vs24 => tsel t25 1 (.leaf 1 vs24) (tsel t25 4 (.op (.fad 29 v1) fun v36 => .op (.ld1 v36) fun v37 => .op (.len 0 v37) fun v38 => .loop [g vs24 0, v7, AV.int .i64 0] (fun vs39 => .op (.bin 0 .lss (g vs39 2) v38) fun v41 => .ite v41 (.op (.idx 12 v37 (g vs39 2)) fun v42 => .op (.ldn 12 v42) fun v43 => .op (.alloc z12_f83) fun v44 => .op (.st 12 v44 v43) fun v45 => .op (.fad 9 v44) fun v46 => q_impl_stampsOk_1 v46 vs39 v44) (.leaf 6 [g vs39 0, g vs39 1, g vs39 2])) fun t40 vs39 => tsel t40 1 (.leaf 1 vs39) (tsel t40 6 (.op (.fad 14 v1) fun v67 => .op (.ld1 v67) fun v68 => .op (.call n_impl_allTrails [v68]) fun v69 => .op (.len 0 v69) fun v70 => .loop [g vs39 0, AV.int .i64 0] (fun vs71 => .op (.bin 0 .lss (g vs71 1) v70) fun v73 => .ite v73 (.op (.idx 4 v69 (g vs71 1)) fun v74 => q_impl_stampsOk_2 v74 vs71 vs39) (.leaf 8 [g vs71 0, g vs71 1])) fun t72 vs71 => tsel t72 1 (.leaf 1 vs71) (tsel t72 8 (.op (.mkfn n_impl_stampsOk_2 [v1]) fun v86 => .op (.call n_slices_ContainsFunc_int [g vs71 0, v86]) fun v87 => .op (.una .not v87) fun v88 => .fin [.val v88]) .bad)) .bad)) .bad)) .bad))
theorem c_impl_stampsOk (x0 : AV) : CC Tryz.prog n_impl_stampsOk [x0] (p_impl_stampsOk x0) := cc Tryz.func142 [1, 3, 4, 19, 20, 21, 32, 33, 34, 45, 46, 47, 75, 76, 77] (fun r => if r = 2 then [(0, []), (1, []), (3, []), (4, []), (2, [4]), (5, []), (6, [])] else []) (by kernel_rfl)
end
def isTm (id stamp : Int) (t : Ab.Timer) : Bool := decide (t.id = stamp ∧ t.trace = id)
theorem s_stampsOk_1 {h : AH} {b : Nat} {t : Trail} {v : AV} (a : At h b 0 (t.cs v)) : Looks Ab.Timer Tryz.prog h n_impl_stampsOk_1 [.ptr b 0] (isTm t.id t.stamp) := by
  rintro y cs F ⟨rfl, rfl⟩
  refine reader (c_impl_stampsOk_1 _ _) (by simp only [old]) ?_
  unfold p_impl_stampsOk_1
  (repeat' first|refine vs ?_|(refine br ?_ ?_<;>intro _<;>try(exfalso;first|omega|contradiction))|((with_reducible refine g_idx ?_);((first|refine ix ?_|refine ixi ?_|(refine ixg ?_;intro _ _)|(refine ixgi ?_;intro _ _));first|rintro _ _ _ _ _ ⟨rfl,rfl⟩ _|rintro _ _ _ _ _ ⟨_,rfl,_⟩ _|rintro _ _ _ _ _ ⟨_,_,_,_,rfl,rfl,_,_⟩ _|intro _ _ _ _ _ _ _))|(refine sx ?_;intro _ _)|((with_reducible refine g_awp ?_);simp only [g0,g1,g2]))
  all_goals (refine pb ?_; simp [isTm]; omega)
theorem s_slices_ContainsFunc_Timer {h : AH} {xs : List Ab.Timer} {x0 : AV} {F : List Nat} {f : FuncId} {caps : List AV} {p : Ab.Timer → Bool} (r : SlRep h x0 xs F) (hf : Looks Ab.Timer Tryz.prog h f caps p) :
    RCalls Tryz.prog n_slices_ContainsFunc_Timer [x0, .fn f caps] h (.bool (bp (∃ x ∈ xs, p x = true))) := by
  refine reader (c_slices_ContainsFunc_Timer _ _) (by simp only [old]) ?_
  unfold p_slices_ContainsFunc_Timer
  (repeat' first|refine vs ?_|(refine br ?_ ?_<;>intro _<;>try(exfalso;first|omega|contradiction))|((with_reducible refine g_callf n_slices_IndexFunc_Timer ?_);refine aw_rcall (s_slices_IndexFunc_Timer slr_auto hf) ?_)|((with_reducible refine g_idx ?_);((first|refine ix ?_|refine ixi ?_|(refine ixg ?_;intro _ _)|(refine ixgi ?_;intro _ _));first|rintro _ _ _ _ _ ⟨rfl,rfl⟩ _|rintro _ _ _ _ _ ⟨_,rfl,_⟩ _|rintro _ _ _ _ _ ⟨_,_,_,_,rfl,rfl,_,_⟩ _|intro _ _ _ _ _ _ _))|(refine sx ?_;intro _ _)|((with_reducible refine g_awp ?_);simp only [g0,g1,g2]))
  · exact pt (idx_ge.1 (by assumption))
  · exact pf fun k => absurd (idx_ge.2 k) (by assumption)
theorem s_stampsOk_2 {h : AH} {b : Nat} {x : Wld} {v0 v1 v2 v3 v4 v5 v6 v7 v8 v9 v10 : AV} {n : Int} (a : At h b 0 (x.cs v0 v1 v2 v3 v4 v5 v6 v7 v8 v9 v10)) : RCalls Tryz.prog n_impl_stampsOk_2 [.int .i64 n, .ptr b 0] h (.bool (decide (n ≥ x.next))) := by
  refine reader (c_impl_stampsOk_2 _ _) (by simp only [old]) ?_
  unfold p_impl_stampsOk_2
  (repeat' first|refine vs ?_|(refine br ?_ ?_<;>intro _<;>try(exfalso;first|omega|contradiction))|((with_reducible refine g_idx ?_);((first|refine ix ?_|refine ixi ?_|(refine ixg ?_;intro _ _)|(refine ixgi ?_;intro _ _));first|rintro _ _ _ _ _ ⟨rfl,rfl⟩ _|rintro _ _ _ _ _ ⟨_,rfl,_⟩ _|rintro _ _ _ _ _ ⟨_,_,_,_,rfl,rfl,_,_⟩ _|intro _ _ _ _ _ _ _))|(refine sx ?_;intro _ _)|((with_reducible refine g_awp ?_);simp only [g0,g1,g2]))
  all_goals (refine pb ?_; simp; omega)
theorem s_slices_IndexFunc_int {h : AH} {xs : List Int} {x0 : AV} {F : List Nat} {f : FuncId} {caps : List AV} {p : Int → Bool} (r : SlRep h x0 xs F) (hf : ∀ n, RCalls Tryz.prog f (.int .i64 n :: caps) h (.bool (p n))) :
    RCalls Tryz.prog n_slices_IndexFunc_int [x0, .fn f caps] h (.int .i64 (idx p xs)) := by
  refine reader (c_slices_IndexFunc_int _ _) (by simp only [old]) ?_
  unfold p_slices_IndexFunc_int
  have hsm := r.small
  refine aw_len r ?_
  refine aw_upto xs.length (fun i vs h1 => vs = [.int .i64 (i : Int)] ∧ i ≤ xs.length ∧ h1 = h ∧ ∀ j y, j < i → xs[j]? = some y → p y = false) ⟨rfl, Nat.zero_le _, rfl, fun j y hj => by omega⟩ ?_
  rintro i vs h1 _ ⟨rfl, hi, rfl, hn⟩
  simp only [g0]
  refine br (fun hlt => ?_) (fun hge => ?_)
  · obtain ⟨x, hx, -, htk⟩ := drop_step (show i < xs.length by omega)
    refine aw_ite_t (aw_idx r hx rfl ?_)
    rintro bb o _ Fi a ⟨rfl, rfl⟩ _
    refine aw_ld1_at a (Ext.refl _) (aw_rcallv (hf x) (aw_ite ?_ ?_))
    · intro hp
      exact aw_fin1 (pi (by rw [idx_at hx hp hn]))
    · intro hp
      (repeat' first|refine vs ?_|(refine br ?_ ?_<;>intro _<;>try(exfalso;first|omega|contradiction))|((with_reducible refine g_idx ?_);((first|refine ix ?_|refine ixi ?_|(refine ixg ?_;intro _ _)|(refine ixgi ?_;intro _ _));first|rintro _ _ _ _ _ ⟨rfl,rfl⟩ _|rintro _ _ _ _ _ ⟨_,rfl,_⟩ _|rintro _ _ _ _ _ ⟨_,_,_,_,rfl,rfl,_,_⟩ _|intro _ _ _ _ _ _ _))|(refine sx ?_;intro _ _)|((with_reducible refine g_awp ?_);simp only [g0,g1,g2]))
      refine ⟨by omega, rfl, by omega, rfl, fun j y hj hy => ?_⟩
      by_cases e : j = i
      · subst e; rw [hx] at hy; cases hy; exact hp
      · exact hn j y (by omega) hy
  · have e : i = xs.length := by omega
    subst e
    (repeat' first|refine vs ?_|(refine br ?_ ?_<;>intro _<;>try(exfalso;first|omega|contradiction))|((with_reducible refine g_idx ?_);((first|refine ix ?_|refine ixi ?_|(refine ixg ?_;intro _ _)|(refine ixgi ?_;intro _ _));first|rintro _ _ _ _ _ ⟨rfl,rfl⟩ _|rintro _ _ _ _ _ ⟨_,rfl,_⟩ _|rintro _ _ _ _ _ ⟨_,_,_,_,rfl,rfl,_,_⟩ _|intro _ _ _ _ _ _ _))|(refine sx ?_;intro _ _)|((with_reducible refine g_awp ?_);simp only [g0,g1,g2]))
    exact pi (idx_no hn).symm
theorem s_slices_ContainsFunc_int {h : AH} {xs : List Int} {x0 : AV} {F : List Nat} {f : FuncId} {caps : List AV} {p : Int → Bool} (r : SlRep h x0 xs F) (hf : ∀ n, RCalls Tryz.prog f (.int .i64 n :: caps) h (.bool (p n))) :
    RCalls Tryz.prog n_slices_ContainsFunc_int [x0, .fn f caps] h (.bool (bp (∃ x ∈ xs, p x = true))) := by
  refine reader (c_slices_ContainsFunc_int _ _) (by simp only [old]) ?_
  unfold p_slices_ContainsFunc_int
  (repeat' first|refine vs ?_|(refine br ?_ ?_<;>intro _<;>try(exfalso;first|omega|contradiction))|((with_reducible refine g_callf n_slices_IndexFunc_int ?_);refine aw_rcall (s_slices_IndexFunc_int slr_auto hf) ?_)|((with_reducible refine g_idx ?_);((first|refine ix ?_|refine ixi ?_|(refine ixg ?_;intro _ _)|(refine ixgi ?_;intro _ _));first|rintro _ _ _ _ _ ⟨rfl,rfl⟩ _|rintro _ _ _ _ _ ⟨_,rfl,_⟩ _|rintro _ _ _ _ _ ⟨_,_,_,_,rfl,rfl,_,_⟩ _|intro _ _ _ _ _ _ _))|(refine sx ?_;intro _ _)|((with_reducible refine g_awp ?_);simp only [g0,g1,g2]))
  · exact pt (idx_ge.1 (by assumption))
  · exact pf fun k => absurd (idx_ge.2 k) (by assumption)
end Go.Proofs.YtjnekdbdmoibgaaGreat
end
section
/- Worlds: the stamps, by the program: the walk. -/
set_option linter.unusedSimpArgs false
set_option linter.unusedVariables false
set_option maxHeartbeats 8000000
namespace Go.Proofs.YtjnekdbdmoibgaaGreat
open Go Go.Ab

def tmOf (t : Task) : Ab.Timer := ⟨t.stamp, t.trace, 0⟩
def judges (l : List Task) : List Ab.Timer := (l.filter fun t => decide (t.op = 2 ∧ t.pc ≠ 3)).map tmOf
theorem judges_y {l : List Task} {i : Nat} {t : Task} (htk : l.take (i + 1) = l.take i ++ [t]) (h : t.op = 2 ∧ t.pc ≠ 3) : judges (l.take (i + 1)) = judges (l.take i) ++ [tmOf t] := by
  rw [htk]; unfold judges; rw [List.filter_append, List.map_append]; congr 1; simp [h]
theorem judges_n {l : List Task} {i : Nat} {t : Task} (htk : l.take (i + 1) = l.take i ++ [t]) (h : ¬ (t.op = 2 ∧ t.pc ≠ 3)) : judges (l.take (i + 1)) = judges (l.take i) := by
  rw [htk]; unfold judges; rw [List.filter_append, List.map_append]; simp [h]
theorem judges_len (l : List Task) (i : Nat) : (judges (l.take i)).length ≤ l.length := by
  unfold judges
  have h1 := List.length_filter_le (fun t : Task => decide (t.op = 2 ∧ t.pc ≠ 3)) (l.take i)
  have h2 := List.length_take_le' i l
  rw [List.length_map]; omega
theorem known_iff {x : Wld} {id stamp : Int} : (∃ y ∈ allTm x ++ judges x.tasks, isTm id stamp y = true) ↔ known x id stamp := by
  constructor
  · rintro ⟨y, hy, hp⟩
    simp only [isTm, decide_eq_true_eq] at hp
    rcases List.mem_append.1 hy with hy | hy
    · exact .inl ⟨y, hy, hp⟩
    · unfold judges at hy
      obtain ⟨t, ht, rfl⟩ := List.mem_map.1 hy
      obtain ⟨hm, hq⟩ := List.mem_filter.1 ht
      simp only [decide_eq_true_eq] at hq
      exact .inr ⟨t, hm, hq.1, hq.2, hp.1, hp.2⟩
  · rintro (⟨y, hy, hp⟩ | ⟨t, ht, h1, h2, h3, h4⟩)
    · exact ⟨y, List.mem_append_left _ hy, by simp [isTm, hp]⟩
    · refine ⟨tmOf t, List.mem_append_right _ ?_, by simp [isTm, tmOf, h3, h4]⟩
      unfold judges
      exact List.mem_map.2 ⟨t, List.mem_filter.2 ⟨ht, by simp [h1, h2]⟩, rfl⟩
theorem map_s {α β : Type} (f : α → β) {l : List α} {i : Nat} {x : α} (htk : l.take (i + 1) = l.take i ++ [x]) : (l.take (i + 1)).map f = (l.take i).map f ++ [f x] := by rw [htk, List.map_append]; rfl
theorem map_l {α β : Type} (f : α → β) (l : List α) (i : Nat) : ((l.take i).map f).length ≤ l.length := by rw [List.length_map]; exact List.length_take_le' i l
def stampsL (x : Wld) : List Int := (allTm x).map (·.id) ++ (x.cache.map (·.stamp) ++ (x.tasks.map (·.stamp) ++ (allT x.st).map (·.stamp)))
def stampsI (x : Wld) : Prop := (∀ t ∈ allT x.st, known x t.id t.stamp) ∧ ∀ n ∈ stampsL x, n < x.next
theorem s_impl_stampsOk {h : AH} {x : Wld} {cs : List AV} {F : List Nat} (hs : Sz.sz x ≤ 67108864) (r : Cel.rep h x cs F) :
    RCalls Tryz.prog n_impl_stampsOk [.agg cs] h (.bool (bp (stampsI x))) := by
  obtain ⟨v0, v1, v2, v3, v4, v5, v6, v7, v8, v9, v10, F0, F1, F2, F3, F4, F5, F6, F7, F8, F9, F10, rfl, rfl, r0, r1, r2, r3, r4, r5, r6, r7, r8, r9, r10⟩ := r
  have hs : Sz.sz x.c + (x.st.length + szs x.st) + (x.cache.length + szs x.cache) + Sz.sz x.w + (x.due.length + szs x.due) + (x.queue.length + szs x.queue) + (x.out.length + szs x.out) + (x.tasks.length + szs x.tasks) + (x.deeds.length + szs x.deeds) ≤ 67108864 := hs
  have hl2 := r2.small
  have hl9 := r9.small
  have htb := timers_b x.w
  have hab := allT_b x.st
  refine reader (c_impl_stampsOk _) (by simp only [old]) ?_
  unfold p_impl_stampsOk
  (repeat' first|refine vs ?_|(refine br ?_ ?_<;>intro _<;>try(exfalso;first|omega|contradiction))|((with_reducible refine g_idx ?_);((first|refine ix ?_|refine ixi ?_|(refine ixg ?_;intro _ _)|(refine ixgi ?_;intro _ _));first|rintro _ _ _ _ _ ⟨rfl,rfl⟩ _|rintro _ _ _ _ _ ⟨_,rfl,_⟩ _|rintro _ _ _ _ _ ⟨_,_,_,_,rfl,rfl,_,_⟩ _|intro _ _ _ _ _ _ _))|(refine sx ?_;intro _ _)|((with_reducible refine g_awp ?_);simp only [g0,g1,g2]))
  refine aw_call (s_impl_Timers (w := x.w) om_auto slr_auto slr_auto slr_auto) ?_
  rintro u h1 ⟨e1, G1, q1, o1⟩
  have n1 := e1.1
  simp only [push_n] at n1 o1
  refine vs ?_
  refine app2F (n := h.n + 1) (xs := timers x.w) (ys := x.due) (Fx := G1) q1 (slr_auto : SlRep _ v6 x.due F6) o1 om_auto rfl (by omega) (by omega) ?_
  intro v h4 T kp0 kp q2 o2
  have e4 := kp0 _ e1 (by simp)
  have n4 := e4.1
  simp only [push_n] at n4
  have hlen : (timers x.w ++ x.due).length = (timers x.w).length + x.due.length := by simp
  clear kp0 kp e1 n1 q1 o1
  change SlRep h4 v (allTm x) T at q2
  have hlen : (allTm x).length = (timers x.w).length + x.due.length := hlen
  have hsm := q2.small
  refine vs ?_
  refine aw_upto (allTm x).length (fun i vs h5 => ∃ u G, vs = [u, .int .i64 (i : Int)] ∧ i ≤ (allTm x).length ∧ Ext h4 h5 ∧ SlRep h5 u (((allTm x).take i).map (·.id)) G ∧ Own h4.n h5 G) ⟨_, _, rfl, Nat.zero_le _, Ext.refl _, SlRep.nils, Own.nil⟩ ?_
  rintro i vs h5 _ ⟨u, G, rfl, hi, e5, ru, ou⟩
  have n5 := e5.1
  simp only [g0, g1]
  have hml := map_l (·.id) (allTm x) i
  refine br (fun hlt => ?_) (fun hge => ?_)
  · obtain ⟨t, ht, -, htk⟩ := drop_step (show i < (allTm x).length by omega)
    (repeat' first|refine vs ?_|(refine br ?_ ?_<;>intro _<;>try(exfalso;first|omega|contradiction))|((with_reducible refine g_idx ?_);((first|refine ix ?_|refine ixi ?_|(refine ixg ?_;intro _ _)|(refine ixgi ?_;intro _ _));first|rintro _ _ _ _ _ ⟨rfl,rfl⟩ _|rintro _ _ _ _ _ ⟨_,rfl,_⟩ _|rintro _ _ _ _ _ ⟨_,_,_,_,rfl,rfl,_,_⟩ _|intro _ _ _ _ _ _ _))|(refine sx ?_;intro _ _)|((with_reducible refine g_awp ?_);simp only [g0,g1,g2]))
    refine app1F (n := h4.n) (xs := ((allTm x).take i).map (·.id)) (a := t.id) (G := []) slr_auto ⟨rfl, rfl⟩ (by rw [List.append_nil]; exact ol_auto) om_auto rfl (by omega) (by omega) ?_
    intro v' h' F' ek kp r' o' _
    (repeat' first|refine vs ?_|(refine br ?_ ?_<;>intro _<;>try(exfalso;first|omega|contradiction))|((with_reducible refine g_idx ?_);((first|refine ix ?_|refine ixi ?_|(refine ixg ?_;intro _ _)|(refine ixgi ?_;intro _ _));first|rintro _ _ _ _ _ ⟨rfl,rfl⟩ _|rintro _ _ _ _ _ ⟨_,rfl,_⟩ _|rintro _ _ _ _ _ ⟨_,_,_,_,rfl,rfl,_,_⟩ _|intro _ _ _ _ _ _ _))|(refine sx ?_;intro _ _)|((with_reducible refine g_awp ?_);simp only [g0,g1,g2]))
    exact ⟨by omega, v', F', rfl, by omega, ek _ ext_auto (Nat.le_refl _), by rw [map_s _ htk]; exact r', o'⟩
  have ei : i = (allTm x).length := by omega
  subst ei
  rw [List.take_length] at ru
  clear hml hi hge
  (repeat' first|refine vs ?_|(refine br ?_ ?_<;>intro _<;>try(exfalso;first|omega|contradiction))|((with_reducible refine g_idx ?_);((first|refine ix ?_|refine ixi ?_|(refine ixg ?_;intro _ _)|(refine ixgi ?_;intro _ _));first|rintro _ _ _ _ _ ⟨rfl,rfl⟩ _|rintro _ _ _ _ _ ⟨_,rfl,_⟩ _|rintro _ _ _ _ _ ⟨_,_,_,_,rfl,rfl,_,_⟩ _|intro _ _ _ _ _ _ _))|(refine sx ?_;intro _ _)|((with_reducible refine g_awp ?_);simp only [g0,g1,g2]))
  refine aw_upto x.cache.length (fun i vs h6 => ∃ u G, vs = [u, .int .i64 (i : Int)] ∧ i ≤ x.cache.length ∧ Ext h4 h6 ∧ SlRep h6 u ((allTm x).map (·.id) ++ (x.cache.take i).map (·.stamp)) G ∧ Own h4.n h6 G) ⟨u, G, rfl, Nat.zero_le _, e5, by simpa using ru, ou⟩ ?_
  clear ru ou e5 n5
  rintro i vs h6 _ ⟨u, G, rfl, hi, e5, ru, ou⟩
  have n5 := e5.1
  simp only [g0, g1]
  have hml := map_l (·.stamp) x.cache i
  have hll : ((allTm x).map (·.id) ++ (x.cache.take i).map (·.stamp)).length = (allTm x).length + ((x.cache.take i).map (·.stamp)).length := by simp
  refine br (fun hlt => ?_) (fun hge => ?_)
  · obtain ⟨t, ht, -, htk⟩ := drop_step (show i < x.cache.length by omega)
    (repeat' first|refine vs ?_|(refine br ?_ ?_<;>intro _<;>try(exfalso;first|omega|contradiction))|((with_reducible refine g_idx ?_);((first|refine ix ?_|refine ixi ?_|(refine ixg ?_;intro _ _)|(refine ixgi ?_;intro _ _));first|rintro _ _ _ _ _ ⟨rfl,rfl⟩ _|rintro _ _ _ _ _ ⟨_,rfl,_⟩ _|rintro _ _ _ _ _ ⟨_,_,_,_,rfl,rfl,_,_⟩ _|intro _ _ _ _ _ _ _))|(refine sx ?_;intro _ _)|((with_reducible refine g_awp ?_);simp only [g0,g1,g2]))
    refine app1F (n := h4.n) (xs := (allTm x).map (·.id) ++ (x.cache.take i).map (·.stamp)) (a := t.stamp) (G := []) slr_auto ⟨rfl, rfl⟩ (by rw [List.append_nil]; exact ol_auto) om_auto rfl (by omega) (by omega) ?_
    intro v' h' F' ek kp r' o' _
    (repeat' first|refine vs ?_|(refine br ?_ ?_<;>intro _<;>try(exfalso;first|omega|contradiction))|((with_reducible refine g_idx ?_);((first|refine ix ?_|refine ixi ?_|(refine ixg ?_;intro _ _)|(refine ixgi ?_;intro _ _));first|rintro _ _ _ _ _ ⟨rfl,rfl⟩ _|rintro _ _ _ _ _ ⟨_,rfl,_⟩ _|rintro _ _ _ _ _ ⟨_,_,_,_,rfl,rfl,_,_⟩ _|intro _ _ _ _ _ _ _))|(refine sx ?_;intro _ _)|((with_reducible refine g_awp ?_);simp only [g0,g1,g2]))
    exact ⟨by omega, v', F', rfl, by omega, ek _ ext_auto (Nat.le_refl _), by rw [map_s _ htk, ← List.append_assoc]; exact r', o'⟩
  have ei : i = x.cache.length := by omega
  subst ei
  rw [List.take_length] at ru
  clear hml hll hi hge
  (repeat' first|refine vs ?_|(refine br ?_ ?_<;>intro _<;>try(exfalso;first|omega|contradiction))|((with_reducible refine g_idx ?_);((first|refine ix ?_|refine ixi ?_|(refine ixg ?_;intro _ _)|(refine ixgi ?_;intro _ _));first|rintro _ _ _ _ _ ⟨rfl,rfl⟩ _|rintro _ _ _ _ _ ⟨_,rfl,_⟩ _|rintro _ _ _ _ _ ⟨_,_,_,_,rfl,rfl,_,_⟩ _|intro _ _ _ _ _ _ _))|(refine sx ?_;intro _ _)|((with_reducible refine g_awp ?_);simp only [g0,g1,g2]))
  have hGT : ∀ c ∈ G, c ∉ T := dis_own2 ou q2 (Nat.le_refl _)
  refine aw_upto x.tasks.length (fun i vs h7 => ∃ u G w T, vs = [u, w, .int .i64 (i : Int)] ∧ i ≤ x.tasks.length ∧ Ext (h.push ⟨(x.cs v0 v1 v2 v3 v4 v5 v6 v7 v8 v9 v10), 0, 0⟩) h7 ∧ SlRep h7 u ((allTm x).map (·.id) ++ (x.cache.map (·.stamp) ++ (x.tasks.take i).map (·.stamp))) G ∧ Own (h.n + 1) h7 G ∧ SlRep h7 w (allTm x ++ judges (x.tasks.take i)) T ∧ Own (h.n + 1) h7 T ∧ ∀ c ∈ G, c ∉ T) ⟨u, G, v, T, rfl, Nat.zero_le _, ext_auto, by simpa using ru, ou.mono (by omega) fun _ _ => rfl, by simpa [judges] using (slr_auto : SlRep h6 v (allTm x) T), ol_auto, hGT⟩ ?_
  clear ru ou e5 n5 hGT q2 o2
  rintro i vs h7 _ ⟨u, G, w, T, rfl, hi, e7, ru, ou, rw', ow, hGT⟩
  have n7 := e7.1
  simp only [push_n] at n7
  simp only [g0, g1, g2]
  have hml := map_l (·.stamp) x.tasks i
  have hjl := judges_len x.tasks i
  have hll : ((allTm x).map (·.id) ++ (x.cache.map (·.stamp) ++ (x.tasks.take i).map (·.stamp))).length = (allTm x).length + (x.cache.length + ((x.tasks.take i).map (·.stamp)).length) := by simp
  have hlw : (allTm x ++ judges (x.tasks.take i)).length = (allTm x).length + (judges (x.tasks.take i)).length := by simp
  refine br (fun hlt => ?_) (fun hge => ?_)
  · obtain ⟨t, ht, -, htk⟩ := drop_step (show i < x.tasks.length by omega)
    refine vs ?_
    refine aw_idx r9 ht rfl ?_
    rintro b o _ Fi a ⟨va, vb, Fa, Fb, rfl, rfl, ra, rb⟩ _
    (repeat' first|refine vs ?_|(refine br ?_ ?_<;>intro _<;>try(exfalso;first|omega|contradiction))|((with_reducible refine g_idx ?_);((first|refine ix ?_|refine ixi ?_|(refine ixg ?_;intro _ _)|(refine ixgi ?_;intro _ _));first|rintro _ _ _ _ _ ⟨rfl,rfl⟩ _|rintro _ _ _ _ _ ⟨_,rfl,_⟩ _|rintro _ _ _ _ _ ⟨_,_,_,_,rfl,rfl,_,_⟩ _|intro _ _ _ _ _ _ _))|(refine sx ?_;intro _ _)|((with_reducible refine g_awp ?_);simp only [g0,g1,g2]))
    refine app1F (n := h.n + 1) (xs := (allTm x).map (·.id) ++ (x.cache.map (·.stamp) ++ (x.tasks.take i).map (·.stamp))) (a := t.stamp) (G := []) slr_auto ⟨rfl, rfl⟩ (by rw [List.append_nil]; exact ol_auto) om_auto rfl (by omega) (by omega) ?_
    intro v' h8 F' ek kp r' o' hF
    have e8 := ek _ (ext_auto : Ext (h.push ⟨(x.cs v0 v1 v2 v3 v4 v5 v6 v7 v8 v9 v10), 0, 0⟩) _) (by simp)
    have n8 := kp.1
    simp only [push_n] at n8
    have bt : Bk h8 h7.n [.int .i64 t.op, .int .i64 t.pc, .int .i64 t.s.trace, .int .i64 t.s.id, .int .i64 t.s.start, .int .i64 t.s.fin, .bool t.s.err, va, .int .i64 t.trace, .int .i64 t.stamp, vb, .int .i64 t.h] 0 := bk_kp1 kp bk_auto (nin_lt ru (Nat.le_refl _))
    have w8 : SlRep h8 w (allTm x ++ judges (x.tasks.take i)) T := slr_kp1 kp slr_auto fun c hc hg => hGT c hg hc
    have ow8 : Own (h.n + 1) h8 T := (ol_kp1 kp oll_auto fun c hc hg => hGT c hg hc).1
    have hd8 : ∀ c ∈ F', c ∉ T := fun c hc hT => by
      rcases hF c hc with h1 | h1 | h1
      · exact hGT c h1 hT
      · cases h1
      · have := rw'.lt c hT
        simp only [push_n] at h1; omega
    rw [List.append_assoc, List.append_assoc, ← map_s (fun t : Task => t.stamp) htk] at r'
    clear ek kp hF ru ou rw' ow hGT
    (repeat' first|refine vs ?_|(refine br ?_ ?_<;>intro _<;>try(exfalso;first|omega|contradiction))|((with_reducible refine g_idx ?_);((first|refine ix ?_|refine ixi ?_|(refine ixg ?_;intro _ _)|(refine ixgi ?_;intro _ _));first|rintro _ _ _ _ _ ⟨rfl,rfl⟩ _|rintro _ _ _ _ _ ⟨_,rfl,_⟩ _|rintro _ _ _ _ _ ⟨_,_,_,_,rfl,rfl,_,_⟩ _|intro _ _ _ _ _ _ _))|(refine sx ?_;intro _ _)|((with_reducible refine g_awp ?_);simp only [g0,g1,g2]))
    all_goals first
      | exact ⟨by omega, v', F', w, T, rfl, by omega, ext_auto, r', o', by rw [judges_n htk (by omega)]; exact w8, ow8, hd8⟩
      | skip
    refine app1F (n := h.n + 1) (xs := allTm x ++ judges (x.tasks.take i)) (a := tmOf t) (G := []) slr_auto ⟨rfl, rfl⟩ (by rw [List.append_nil]; exact ol_auto) om_auto rfl (by omega) (by omega) ?_
    intro w' h9 T' ek kp rT oT hT
    have e9 := ek _ (ext_auto : Ext (h.push ⟨(x.cs v0 v1 v2 v3 v4 v5 v6 v7 v8 v9 v10), 0, 0⟩) _) (by simp)
    have n9 := kp.1
    have u9 : SlRep h9 v' _ F' := slr_kp1 kp slr_auto hd8
    have ou9 : Own (h.n + 1) h9 F' := (ol_kp1 kp oll_auto hd8).1
    have hd9 : ∀ c ∈ F', c ∉ T' := fun c hc hTc => by
      rcases hT c hTc with h1 | h1 | h1
      · exact hd8 c hc h1
      · cases h1
      · have := r'.lt c hc
        (try simp only [push_n] at h1); omega
    rw [List.append_assoc, ← judges_y htk (by omega)] at rT
    (repeat' first|refine vs ?_|(refine br ?_ ?_<;>intro _<;>try(exfalso;first|omega|contradiction))|((with_reducible refine g_idx ?_);((first|refine ix ?_|refine ixi ?_|(refine ixg ?_;intro _ _)|(refine ixgi ?_;intro _ _));first|rintro _ _ _ _ _ ⟨rfl,rfl⟩ _|rintro _ _ _ _ _ ⟨_,rfl,_⟩ _|rintro _ _ _ _ _ ⟨_,_,_,_,rfl,rfl,_,_⟩ _|intro _ _ _ _ _ _ _))|(refine sx ?_;intro _ _)|((with_reducible refine g_awp ?_);simp only [g0,g1,g2]))
    exact ⟨by omega, v', F', w', T', rfl, by omega, e9, u9, ou9, rT, oT, hd9⟩
  have ei : i = x.tasks.length := by omega
  subst ei
  rw [List.take_length] at ru rw'
  clear hml hjl hll hlw hi hge
  (repeat' first|refine vs ?_|(refine br ?_ ?_<;>intro _<;>try(exfalso;first|omega|contradiction))|((with_reducible refine g_idx ?_);((first|refine ix ?_|refine ixi ?_|(refine ixg ?_;intro _ _)|(refine ixgi ?_;intro _ _));first|rintro _ _ _ _ _ ⟨rfl,rfl⟩ _|rintro _ _ _ _ _ ⟨_,rfl,_⟩ _|rintro _ _ _ _ _ ⟨_,_,_,_,rfl,rfl,_,_⟩ _|intro _ _ _ _ _ _ _))|(refine sx ?_;intro _ _)|((with_reducible refine g_awp ?_);simp only [g0,g1,g2]))
  refine aw_call (s_impl_allTrails (l := x.st) om_auto slr_auto) ?_
  rintro vL h8 ⟨e8, FL, qL, oL⟩
  have n8 := e8.1
  have hGL : ∀ c ∈ G, c ∉ FL := dis_own ru oL (Nat.le_refl _)
  refine aw_len qL ?_
  have hsL := qL.small
  refine aw_upto (allT x.st).length (fun i vs h9 => ∃ u G, vs = [u, .int .i64 (i : Int)] ∧ i ≤ (allT x.st).length ∧ Ext (h.push ⟨(x.cs v0 v1 v2 v3 v4 v5 v6 v7 v8 v9 v10), 0, 0⟩) h9 ∧ SlRep h9 u ((allTm x).map (·.id) ++ (x.cache.map (·.stamp) ++ (x.tasks.map (·.stamp) ++ ((allT x.st).take i).map (·.stamp)))) G ∧ Own (h.n + 1) h9 G ∧ SlRep h9 w (allTm x ++ judges x.tasks) T ∧ SlRep h9 vL (allT x.st) FL ∧ (∀ c ∈ G, c ∉ T) ∧ (∀ c ∈ G, c ∉ FL) ∧ Upto (allT x.st) (fun _ t => known x t.id t.stamp) i) ⟨u, G, rfl, Nat.zero_le _, ext_auto, by simpa using (slr_auto : SlRep h8 u _ G), ol_auto, slr_auto, qL, hGT, hGL, up0⟩ ?_
  clear e8 n8 oL hGL qL ru ou rw' ow hGT e7 n7
  rintro i vs h9 _ ⟨u, G, rfl, hi, e9, ru, ou, rw', rL, hGT, hGL, hu⟩
  have n9 := e9.1
  simp only [push_n] at n9
  simp only [g0, g1]
  have hml := map_l (·.stamp) (allT x.st) i
  have hll : ((allTm x).map (·.id) ++ (x.cache.map (·.stamp) ++ (x.tasks.map (·.stamp) ++ ((allT x.st).take i).map (·.stamp)))).length = (allTm x).length + (x.cache.length + (x.tasks.length + (((allT x.st).take i).map (·.stamp)).length)) := by simp
  refine br (fun hlt => ?_) (fun hge => ?_)
  · obtain ⟨t, ht, -, htk⟩ := drop_step (show i < (allT x.st).length by omega)
    refine vs ?_
    refine aw_idx rL ht rfl ?_
    rintro b o _ Fi a ⟨va, rfl, ra⟩ _
    (repeat' first|refine vs ?_|(refine br ?_ ?_<;>intro _<;>try(exfalso;first|omega|contradiction))|((with_reducible refine g_idx ?_);((first|refine ix ?_|refine ixi ?_|(refine ixg ?_;intro _ _)|(refine ixgi ?_;intro _ _));first|rintro _ _ _ _ _ ⟨rfl,rfl⟩ _|rintro _ _ _ _ _ ⟨_,rfl,_⟩ _|rintro _ _ _ _ _ ⟨_,_,_,_,rfl,rfl,_,_⟩ _|intro _ _ _ _ _ _ _))|(refine sx ?_;intro _ _)|((with_reducible refine g_awp ?_);simp only [g0,g1,g2]))
    refine app1F (n := h.n + 1) (xs := (allTm x).map (·.id) ++ (x.cache.map (·.stamp) ++ (x.tasks.map (·.stamp) ++ ((allT x.st).take i).map (·.stamp)))) (a := t.stamp) (G := []) slr_auto ⟨rfl, rfl⟩ (by rw [List.append_nil]; exact ol_auto) om_auto rfl (by omega) (by omega) ?_
    intro v' h8 F' ek kp r' o' hF
    have e8 := ek _ (ext_auto : Ext (h.push ⟨(x.cs v0 v1 v2 v3 v4 v5 v6 v7 v8 v9 v10), 0, 0⟩) _) (by simp)
    have n8 := kp.1
    simp only [push_n] at n8
    have bt : Bk h8 h9.n [.int .i64 t.id, .int .i64 t.stamp, .int .i64 t.first, va] 0 := bk_kp1 kp bk_auto (nin_lt ru (Nat.le_refl _))
    have w8 : SlRep h8 w (allTm x ++ judges x.tasks) T := slr_kp1 kp slr_auto fun c hc hg => hGT c hg hc
    have L8 : SlRep h8 vL (allT x.st) FL := slr_kp1 kp slr_auto fun c hc hg => hGL c hg hc
    have hdT : ∀ c ∈ F', c ∉ T := fun c hc hT => by
      rcases hF c hc with h1 | h1 | h1
      · exact hGT c h1 hT
      · cases h1
      · have := rw'.lt c hT
        simp only [push_n] at h1; omega
    have hdL : ∀ c ∈ F', c ∉ FL := fun c hc hT => by
      rcases hF c hc with h1 | h1 | h1
      · exact hGL c h1 hT
      · cases h1
      · have := rL.lt c hT
        simp only [push_n] at h1; omega
    rw [List.append_assoc, List.append_assoc, List.append_assoc, ← map_s (fun t : Trail => t.stamp) htk] at r'
    clear ek kp hF ru ou rw' rL hGT hGL
    (repeat' first|refine vs ?_|(refine br ?_ ?_<;>intro _<;>try(exfalso;first|omega|contradiction))|((with_reducible refine g_callf n_slices_ContainsFunc_Timer ?_);(refine aw_rcall_b (s_slices_ContainsFunc_Timer slr_auto (s_stampsOk_1 (t := t) (v := va) (at_bk bt))) ?_ ?_ <;> intro hn <;> first | replace hn := bp_true hn | replace hn := bp_false hn))|((with_reducible refine g_idx ?_);((first|refine ix ?_|refine ixi ?_|(refine ixg ?_;intro _ _)|(refine ixgi ?_;intro _ _));first|rintro _ _ _ _ _ ⟨rfl,rfl⟩ _|rintro _ _ _ _ _ ⟨_,rfl,_⟩ _|rintro _ _ _ _ _ ⟨_,_,_,_,rfl,rfl,_,_⟩ _|intro _ _ _ _ _ _ _))|(refine sx ?_;intro _ _)|((with_reducible refine g_awp ?_);simp only [g0,g1,g2]))
    all_goals first
      | exact pf fun k => absurd (known_iff.2 (k.1 t (List.mem_of_getElem? ht))) (by assumption)
      | exact ⟨by omega, v', F', rfl, by omega, ext_auto, r', o', w8, L8, hdT, hdL, upS hu ht (known_iff.1 (by assumption))⟩
  have ei : i = (allT x.st).length := by omega
  subst ei
  rw [List.take_length] at ru
  have hu := upAll hu
  change SlRep h9 u (stampsL x) G at ru
  have bw : Bk h9 h.n (x.cs v0 v1 v2 v3 v4 v5 v6 v7 v8 v9 v10) 0 := bk_auto
  (repeat' first|refine vs ?_|(refine br ?_ ?_<;>intro _<;>try(exfalso;first|omega|contradiction))|((with_reducible refine g_callf n_slices_ContainsFunc_int ?_);(refine aw_rcall_b (s_slices_ContainsFunc_int ru (fun n => s_stampsOk_2 (x := x) (n := n) (at_bk bw))) ?_ ?_ <;> intro hn <;> first | replace hn := bp_true hn | replace hn := bp_false hn))|((with_reducible refine g_idx ?_);((first|refine ix ?_|refine ixi ?_|(refine ixg ?_;intro _ _)|(refine ixgi ?_;intro _ _));first|rintro _ _ _ _ _ ⟨rfl,rfl⟩ _|rintro _ _ _ _ _ ⟨_,rfl,_⟩ _|rintro _ _ _ _ _ ⟨_,_,_,_,rfl,rfl,_,_⟩ _|intro _ _ _ _ _ _ _))|(refine sx ?_;intro _ _)|((with_reducible refine g_awp ?_);simp only [g0,g1,g2]))
  · refine pf fun k => ?_
    rename_i hn
    obtain ⟨n, hn, hp⟩ := hn
    simp only [decide_eq_true_eq] at hp
    have := k.2 n hn
    omega
  · refine pt ⟨hu, fun n hn2 => ?_⟩
    rename_i hn
    by_cases hlt : n < x.next
    · exact hlt
    · exact absurd ⟨n, hn2, by simp only [decide_eq_true_eq]; omega⟩ hn
end Go.Proofs.YtjnekdbdmoibgaaGreat
end
