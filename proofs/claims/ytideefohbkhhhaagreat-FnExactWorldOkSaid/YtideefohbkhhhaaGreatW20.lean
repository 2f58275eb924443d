
/- Worlds: the deeds of tasks, and the values that may be. -/
import Derived.Test.YtideefohbkhhhaaGreatW15
import Derived.Test.YtideefohbkhhhaaGreatW16
import Derived.Test.YtideefohbkhhhaaGreatW17
import Derived.Test.YtideefohbkhhhaaGreatW18
import Derived.Test.YtideefohbkhhhaaGreatW19
import Derived.Test.YtideefohbkhhhaaGreatW9
import Derived.Test.YtideefohbkhhhaaGreatW7
import Derived.Test.YtideefohbkhhhaaGreatW6
set_option linter.unusedSimpArgs false
set_option linter.unusedVariables false
set_option maxHeartbeats 8000000
namespace Go.Proofs.YtideefohbkhhhaaGreat
open Go Go.Ab
section
/- impl.deedOfTask -/
def p_impl_deedOfTask (x0 x1 : AV) : Prog := .op (.box x0) fun v1 => .op (.fad 29 v1) fun v2 => .op (.ld1 v2) fun v3 => .op (.idx 12 v3 x1) fun v4 => .op (.ldn 12 v4) fun v5 => .op (.alloc z12_f83) fun v6 => .op (.st 12 v6 v5) fun v7 => .op (.fad 11 v6) fun v8 => .op (.ld1 v8) fun v9 => .op (.fad 30 v1) fun v10 => .op (.ld1 v10) fun v11 => .op (.len 0 v11) fun v12 => .op (.bin 0 .geq v9 v12) fun v13 => .ite v13 (.fin [.val (AV.bool false)]) (.op (.fad 30 v1) fun v14 => .op (.ld1 v14) fun v15 => .op (.fad 11 v6) fun v16 => .op (.ld1 v16) fun v17 => .op (.idx 20 v15 v17) fun v18 => .op (.ldn 20 v18) fun v19 => .op (.alloc z20_1ff) fun v20 => .op (.st 20 v20 v19) fun v21 => .op (.fad 0 v20) fun v22 => .op (.ld1 v22) fun v23 => .op (.bin 0 .eql v23 (AV.int .i64 1)) fun v24 => .gop v24 true (.fad 2 v20) fun v25 => .gop v24 true (.ldn 6 v25) fun v26 => .gop v24 true (.fad 2 v6) fun v27 => .gop v24 true (.ldn 6 v27) fun v28 => .gop v24 true (.call n_impl_SameSpan [v26, v28]) fun v29 => .op (.pick v24 v29 (AV.bool false)) fun v30 => .op (.fad 0 v6) fun v31 => .op (.ld1 v31) fun v32 => .op (.bin 0 .eql v32 (AV.int .i64 2)) fun v33 => .scope (.ite v33 (.op (.fad 0 v20) fun v34 => .op (.ld1 v34) fun v35 => .op (.bin 0 .eql v35 (AV.int .i64 2)) fun v36 => .gop v36 true (.fad 8 v20) fun v37 => .gop v36 true (.ld1 v37) fun v38 => .gop v36 true (.fad 8 v6) fun v39 => .gop v36 true (.ld1 v39) fun v40 => .gop v36 true (.bin 0 .eql v38 v40) fun v41 => .op (.pick v36 v41 (AV.bool false)) fun v42 => .gop v42 true (.fad 9 v20) fun v43 => .gop v42 true (.ld1 v43) fun v44 => .gop v42 true (.fad 9 v6) fun v45 => .gop v42 true (.ld1 v45) fun v46 => .gop v42 true (.bin 0 .eql v44 v46) fun v47 => .op (.pick v42 v47 (AV.bool false)) fun v48 => .leaf 0 [v48]) (.leaf 0 [v30])) (fun vs49 => .gop (g vs49 0) true (.fad 1 v20) fun v51 => .gop (g vs49 0) true (.ld1 v51) fun v52 => .gop (g vs49 0) true (.mv x1) fun v53 => .gop (g vs49 0) true (.bin 0 .eql v52 v53) fun v54 => .op (.pick (g vs49 0) v54 (AV.bool false)) fun v55 => .gop v55 true (.fad 19 v20) fun v56 => .gop v55 true (.ld1 v56) fun v57 => .gop v55 true (.bin 0 .eql v57 (AV.int .i64 (-1))) fun v58 => .op (.pick v55 v58 (AV.bool false)) fun v59 => .gop v59 true (.fad 18 v20) fun v60 => .gop v59 true (.ld1 v60) fun v61 => .gop v59 true (.bin 0 .neq v61 (AV.int .i64 (-1))) fun v62 => .gop v59 true (.fad 0 v6) fun v63 => .gop v59 true (.ld1 v63) fun v64 => .gop v59 true (.bin 0 .eql v64 (AV.int .i64 2)) fun v65 => .gop v59 true (.mv v65) fun v66 => .gop v66 true (.fad 1 v6) fun v67 => .gop v66 true (.ld1 v67) fun v68 => .gop v66 true (.bin 0 .eql v68 (AV.int .i64 3)) fun v69 => .gop v59 true (.pick v66 v69 (AV.bool false)) fun v70 => .gop v59 true (.bin 2 .eql v62 v70) fun v71 => .op (.pick v59 v71 (AV.bool false)) fun v72 => .fin [.val v72]) fun t50 vs49 => tsel t50 1 (.leaf 1 vs49) .bad)
theorem c_impl_deedOfTask (x0 x1 : AV) : CC Tryz.prog n_impl_deedOfTask [x0, x1] (p_impl_deedOfTask x0 x1) := cc Tryz.func149 [1, 5, 6, 7] (fun _ => []) (by kernel_rfl)
/- spec.l16Deed -/
def p_spec_l16Deed (x0 x1 : AV) : Prog := .op (.box x0) fun v1 => .op (.fad 29 v1) fun v2 => .op (.ld1 v2) fun v3 => .op (.idx 12 v3 x1) fun v4 => .op (.ldn 12 v4) fun v5 => .op (.alloc z12_f83) fun v6 => .op (.st 12 v6 v5) fun v7 => .op (.fad 0 v6) fun v8 => .op (.ld1 v8) fun v9 => .op (.bin 0 .eql v9 (AV.int .i64 0)) fun v10 => .ite v10 (.fin [.val (AV.bool true)]) (.op (.fad 11 v6) fun v11 => .op (.ld1 v11) fun v12 => .op (.fad 30 v1) fun v13 => .op (.ld1 v13) fun v14 => .op (.len 0 v14) fun v15 => .op (.bin 0 .geq v12 v15) fun v16 => .ite v16 (.fin [.val (AV.bool false)]) (.op (.fad 30 v1) fun v17 => .op (.ld1 v17) fun v18 => .op (.fad 11 v6) fun v19 => .op (.ld1 v19) fun v20 => .op (.idx 20 v18 v20) fun v21 => .op (.ldn 20 v21) fun v22 => .op (.alloc z20_1ff) fun v23 => .op (.st 20 v23 v22) fun v24 => .op (.fad 1 v23) fun v25 => .op (.ld1 v25) fun v26 => .op (.bin 0 .neq v26 x1) fun v27 => .gop v27 false (.fad 19 v23) fun v28 => .gop v27 false (.ld1 v28) fun v29 => .gop v27 false (.bin 0 .neq v29 (AV.int .i64 (-1))) fun v30 => .op (.pick v27 (AV.bool true) v30) fun v31 => .gop v31 false (.fad 18 v23) fun v32 => .gop v31 false (.ld1 v32) fun v33 => .gop v31 false (.bin 0 .neq v33 (AV.int .i64 (-1))) fun v34 => .gop v31 false (.fad 0 v6) fun v35 => .gop v31 false (.ld1 v35) fun v36 => .gop v31 false (.bin 0 .eql v36 (AV.int .i64 2)) fun v37 => .gop v31 false (.mv v37) fun v38 => .gop v38 true (.fad 1 v6) fun v39 => .gop v38 true (.ld1 v39) fun v40 => .gop v38 true (.bin 0 .eql v40 (AV.int .i64 3)) fun v41 => .gop v31 false (.pick v38 v41 (AV.bool false)) fun v42 => .gop v31 false (.bin 2 .neq v34 v42) fun v43 => .op (.pick v31 (AV.bool true) v43) fun v44 => .ite v44 (.fin [.val (AV.bool false)]) (.op (.fad 0 v6) fun v45 => .op (.ld1 v45) fun v46 => .op (.bin 0 .eql v46 (AV.int .i64 1)) fun v47 => .ite v47 (.op (.fad 0 v23) fun v48 => .op (.ld1 v48) fun v49 => .op (.bin 0 .eql v49 (AV.int .i64 1)) fun v50 => .gop v50 true (.fad 2 v23) fun v51 => .gop v50 true (.ldn 6 v51) fun v52 => .gop v50 true (.fad 2 v6) fun v53 => .gop v50 true (.ldn 6 v53) fun v54 => .gop v50 true (.call n_spec_SameSpan [v52, v54]) fun v55 => .op (.pick v50 v55 (AV.bool false)) fun v56 => .fin [.val v56]) (.op (.fad 0 v23) fun v57 => .op (.ld1 v57) fun v58 => .op (.bin 0 .eql v58 (AV.int .i64 2)) fun v59 => .gop v59 true (.fad 8 v23) fun v60 => .gop v59 true (.ld1 v60) fun v61 => .gop v59 true (.fad 8 v6) fun v62 => .gop v59 true (.ld1 v62) fun v63 => .gop v59 true (.bin 0 .eql v61 v63) fun v64 => .op (.pick v59 v64 (AV.bool false)) fun v65 => .gop v65 true (.fad 9 v23) fun v66 => .gop v65 true (.ld1 v66) fun v67 => .gop v65 true (.fad 9 v6) fun v68 => .gop v65 true (.ld1 v68) fun v69 => .gop v65 true (.bin 0 .eql v67 v69) fun v70 => .op (.pick v65 v70 (AV.bool false)) fun v71 => .fin [.val v71]))))
theorem c_spec_l16Deed (x0 x1 : AV) : CC Tryz.prog n_spec_l16Deed [x0, x1] (p_spec_l16Deed x0 x1) := cc Tryz.func128 [] (fun _ => []) (by kernel_rfl)
end
def deedFor (k : Nat) (t : Task) (d : Deed) : Prop := d.task = k ∧ d.res = -1 ∧ (d.lin ≠ -1 ↔ (t.op = 2 ∧ t.pc = 3)) ∧ ((t.op = 1 ∧ d.op = 1 ∧ d.s = t.s) ∨ (t.op = 2 ∧ d.op = 2 ∧ d.trace = t.trace ∧ d.stamp = t.stamp))
def deedT (x : Wld) (k : Nat) (t : Task) : Prop := match x.deeds[t.h.toNat]? with
  | none => False
  | some d => deedFor k t d
theorem deedT_s {x : Wld} {k : Nat} {t : Task} {d : Deed} (h : x.deeds[t.h.toNat]? = some d) : deedT x k t ↔ deedFor k t d := by unfold deedT; rw [h]
theorem deedT_n {x : Wld} {k : Nat} {t : Task} (h : x.deeds.length ≤ t.h.toNat) : ¬ deedT x k t := by unfold deedT; rw [List.getElem?_eq_none h]; exact id
theorem s_impl_deedOfTask {h : AH} {x : Wld} {cs : List AV} {F : List Nat} {k : Nat} {t : Task} (ht : x.tasks[k]? = some t) (h0 : 0 ≤ t.h) (ho : t.op = 1 ∨ t.op = 2) (r : Cel.rep h x cs F) :
    RCalls Tryz.prog n_impl_deedOfTask [.agg cs, .int .i64 (k : Int)] h (.bool (bp (deedT x k t))) := by
  obtain ⟨v0, v1, v2, v3, v4, v5, v6, v7, v8, v9, v10, F0, F1, F2, F3, F4, F5, F6, F7, F8, F9, F10, rfl, rfl, r0, r1, r2, r3, r4, r5, r6, r7, r8, r9, r10⟩ := r
  have hl9 := r9.small
  have hl10 := r10.small
  refine reader (c_impl_deedOfTask _ _) (by simp only [old]) ?_
  unfold p_impl_deedOfTask
  by_cases hlt : t.h.toNat < x.deeds.length
  · obtain ⟨d, hd, -, -⟩ := drop_step hlt
    (repeat' first|refine vs ?_|(refine br ?_ ?_<;>intro _<;>try(exfalso;first|omega|contradiction))|((with_reducible refine g_callf n_impl_SameSpan ?_);(refine aw_rcall_b (s_impl_SameSpan (a := d.s) (b := t.s) slr_auto slr_auto) ?_ ?_ <;> intro hn <;> first | replace hn := bp_true hn | replace hn := bp_false hn))|((with_reducible refine g_idx ?_);((first|refine ix ?_|refine ixi ?_|(refine ixg ?_;intro _ _)|(refine ixgi ?_;intro _ _));first|rintro _ _ _ _ _ ⟨rfl,rfl⟩ _|rintro _ _ _ _ _ ⟨_,rfl,_⟩ _|rintro _ _ _ _ _ ⟨_,_,_,_,rfl,rfl,_,_⟩ _|intro _ _ _ _ _ _ _))|(refine sx ?_;intro _ _)|((with_reducible refine g_awp ?_);simp only [g0,g1,g2]))
    all_goals first
      | (refine pt ((deedT_s hd).2 ?_); unfold deedFor; first | exact ⟨by omega, by omega, by omega, .inl ⟨by omega, by omega, by assumption⟩⟩ | exact ⟨by omega, by omega, by omega, .inr ⟨by omega, by omega, by omega, by omega⟩⟩)
      | (refine pf fun k => ?_; obtain ⟨a1, a2, a3, ⟨b1, b2, b3⟩ | ⟨b1, b2, b3, b4⟩⟩ := (deedT_s hd).1 k <;> first | contradiction | omega)
  · (repeat' first|refine vs ?_|(refine br ?_ ?_<;>intro _<;>try(exfalso;first|omega|contradiction))|((with_reducible refine g_idx ?_);((first|refine ix ?_|refine ixi ?_|(refine ixg ?_;intro _ _)|(refine ixgi ?_;intro _ _));first|rintro _ _ _ _ _ ⟨rfl,rfl⟩ _|rintro _ _ _ _ _ ⟨_,rfl,_⟩ _|rintro _ _ _ _ _ ⟨_,_,_,_,rfl,rfl,_,_⟩ _|intro _ _ _ _ _ _ _))|(refine sx ?_;intro _ _)|((with_reducible refine g_awp ?_);simp only [g0,g1,g2]))
    exact pf (deedT_n (by omega))
theorem s_spec_l16Deed {h : AH} {x : Wld} {cs : List AV} {F : List Nat} {k : Nat} {t : Task} (ht : x.tasks[k]? = some t) (h0 : 0 ≤ t.h) (ho : t.op = 0 ∨ t.op = 1 ∨ t.op = 2) (r : Cel.rep h x cs F) :
    RCalls Tryz.prog n_spec_l16Deed [.agg cs, .int .i64 (k : Int)] h (.bool (bp (t.op ≠ 0 → deedT x k t))) := by
  obtain ⟨v0, v1, v2, v3, v4, v5, v6, v7, v8, v9, v10, F0, F1, F2, F3, F4, F5, F6, F7, F8, F9, F10, rfl, rfl, r0, r1, r2, r3, r4, r5, r6, r7, r8, r9, r10⟩ := r
  have hl9 := r9.small
  have hl10 := r10.small
  refine reader (c_spec_l16Deed _ _) (by simp only [old]) ?_
  unfold p_spec_l16Deed
  by_cases hlt : t.h.toNat < x.deeds.length
  · obtain ⟨d, hd, -, -⟩ := drop_step hlt
    (repeat' first|refine vs ?_|(refine br ?_ ?_<;>intro _<;>try(exfalso;first|omega|contradiction))|((with_reducible refine g_callf n_spec_SameSpan ?_);(refine aw_rcall_b (s_spec_SameSpan (a := d.s) (b := t.s) slr_auto slr_auto) ?_ ?_ <;> intro hn <;> first | replace hn := bp_true hn | replace hn := bp_false hn))|((with_reducible refine g_idx ?_);((first|refine ix ?_|refine ixi ?_|(refine ixg ?_;intro _ _)|(refine ixgi ?_;intro _ _));first|rintro _ _ _ _ _ ⟨rfl,rfl⟩ _|rintro _ _ _ _ _ ⟨_,rfl,_⟩ _|rintro _ _ _ _ _ ⟨_,_,_,_,rfl,rfl,_,_⟩ _|intro _ _ _ _ _ _ _))|(refine sx ?_;intro _ _)|((with_reducible refine g_awp ?_);simp only [g0,g1,g2]))
    all_goals first
      | exact pt fun hh => absurd (by assumption) hh
      | (refine pt fun _ => (deedT_s hd).2 ?_; unfold deedFor; first | exact ⟨by omega, by omega, by omega, .inl ⟨by omega, by omega, by assumption⟩⟩ | exact ⟨by omega, by omega, by omega, .inr ⟨by omega, by omega, by omega, by omega⟩⟩)
      | (refine pf fun k => ?_; obtain ⟨a1, a2, a3, ⟨b1, b2, b3⟩ | ⟨b1, b2, b3, b4⟩⟩ := (deedT_s hd).1 (k (by omega)) <;> first | contradiction | omega)
  · (repeat' first|refine vs ?_|(refine br ?_ ?_<;>intro _<;>try(exfalso;first|omega|contradiction))|((with_reducible refine g_idx ?_);((first|refine ix ?_|refine ixi ?_|(refine ixg ?_;intro _ _)|(refine ixgi ?_;intro _ _));first|rintro _ _ _ _ _ ⟨rfl,rfl⟩ _|rintro _ _ _ _ _ ⟨_,rfl,_⟩ _|rintro _ _ _ _ _ ⟨_,_,_,_,rfl,rfl,_,_⟩ _|intro _ _ _ _ _ _ _))|(refine sx ?_;intro _ _)|((with_reducible refine g_awp ?_);simp only [g0,g1,g2]))
    all_goals first
      | exact pt fun hh => absurd (by assumption) hh
      | exact pf fun k => deedT_n (by omega) (k (by omega))
end Go.Proofs.YtideefohbkhhhaaGreat
