/- Deeds and tasks: the small functions. -/
import Derived.Test.YtpcgbddmdipfbaaW5
set_option linter.unusedSimpArgs false
set_option linter.unusedVariables false
set_option maxHeartbeats 1000000
namespace Go.Proofs.Ytpcgbddmdipfbaa
open Go Go.Ab
section
/- impl.Ahead -/
def p_impl_Ahead (x0 x1 : AV) : Prog := .op (.box x0) fun v1 => .op (.box x1) fun v2 => .op (.fad 19 v1) fun v3 => .op (.ld1 v3) fun v4 => .op (.bin 0 .neq v4 (AV.int .i64 (-1))) fun v5 => .gop v5 true (.fad 19 v1) fun v6 => .gop v5 true (.ld1 v6) fun v7 => .gop v5 true (.fad 17 v2) fun v8 => .gop v5 true (.ld1 v8) fun v9 => .gop v5 true (.bin 0 .lss v7 v9) fun v10 => .op (.pick v5 v10 (AV.bool false)) fun v11 => .fin [.val v11]
theorem c_impl_Ahead (x0 x1 : AV) : CC Try.prog n_impl_Ahead [x0, x1] (p_impl_Ahead x0 x1) := cc Try.func61 [] (fun _ => []) (by kernel_rfl)
/- spec.Ahead -/
def p_spec_Ahead (x0 x1 : AV) : Prog := .op (.box x0) fun v1 => .op (.box x1) fun v2 => .op (.fad 19 v1) fun v3 => .op (.ld1 v3) fun v4 => .op (.bin 0 .neq v4 (AV.int .i64 (-1))) fun v5 => .gop v5 true (.fad 19 v1) fun v6 => .gop v5 true (.ld1 v6) fun v7 => .gop v5 true (.fad 17 v2) fun v8 => .gop v5 true (.ld1 v8) fun v9 => .gop v5 true (.bin 0 .lss v7 v9) fun v10 => .op (.pick v5 v10 (AV.bool false)) fun v11 => .fin [.val v11]
theorem c_spec_Ahead (x0 x1 : AV) : CC Try.prog n_spec_Ahead [x0, x1] (p_spec_Ahead x0 x1) := cc Try.func62 [] (fun _ => []) (by kernel_rfl)
/- impl.DeedOk -/
def p_impl_DeedOk (x0 : AV) : Prog := .op (.box x0) fun v1 => .op (.fad 0 v1) fun v2 => .op (.ld1 v2) fun v3 => .op (.call n_impl_within [v3, AV.int .i64 1, AV.int .i64 4]) fun v4 => .op (.una .not v4) fun v5 => .gop v5 false (.fad 17 v1) fun v6 => .gop v5 false (.ld1 v6) fun v7 => .gop v5 false (.bin 0 .lss v7 (AV.int .i64 0)) fun v8 => .op (.pick v5 (AV.bool true) v8) fun v9 => .gop v9 false (.fad 13 v1) fun v10 => .gop v9 false (.ld1 v10) fun v11 => .gop v9 false (.fad 14 v1) fun v12 => .gop v9 false (.ld1 v12) fun v13 => .gop v9 false (.fad 15 v1) fun v14 => .gop v9 false (.ld1 v14) fun v15 => .gop v9 false (.fad 16 v1) fun v16 => .gop v9 false (.ld1 v16) fun v17 => .gop v9 false (.mnx true [v11, v13, v15, v17]) fun v18 => .gop v9 false (.bin 0 .lss v18 (AV.int .i64 0)) fun v19 => .op (.pick v9 (AV.bool true) v19) fun v20 => .ite v20 (.fin [.val (AV.bool false)]) (.op (.fad 0 v1) fun v21 => .op (.ld1 v21) fun v22 => .op (.bin 0 .eql v22 (AV.int .i64 1)) fun v23 => .gop v23 true (.fad 18 v1) fun v24 => .gop v23 true (.ld1 v24) fun v25 => .gop v23 true (.bin 0 .neq v25 (AV.int .i64 (-1))) fun v26 => .op (.pick v23 v26 (AV.bool false)) fun v27 => .scope (.ite v27 (.op (.fad 10 v1) fun v28 => .op (.ld1 v28) fun v29 => .op (.call n_impl_within [v29, AV.int .i64 1, AV.int .i64 5]) fun v30 => .op (.una .not v30) fun v31 => .ite v31 (.fin [.val (AV.bool false)]) (.leaf 0 [])) (.op (.fad 10 v1) fun v32 => .op (.ld1 v32) fun v33 => .op (.bin 0 .neq v33 (AV.int .i64 0)) fun v34 => .ite v34 (.fin [.val (AV.bool false)]) (.leaf 0 []))) (fun vs35 => .op (.fad 18 v1) fun v37 => .op (.ld1 v37) fun v38 => .op (.bin 0 .eql v38 (AV.int .i64 (-1))) fun v39 => .gop v39 false (.fad 18 v1) fun v40 => .gop v39 false (.ld1 v40) fun v41 => .gop v39 false (.fad 17 v1) fun v42 => .gop v39 false (.ld1 v42) fun v43 => .gop v39 false (.bin 0 .geq v41 v43) fun v44 => .op (.pick v39 (AV.bool true) v44) fun v45 => .gop v45 true (.fad 19 v1) fun v46 => .gop v45 true (.ld1 v46) fun v47 => .gop v45 true (.bin 0 .eql v47 (AV.int .i64 (-1))) fun v48 => .gop v45 true (.mv v48) fun v49 => .gop v49 false (.fad 18 v1) fun v50 => .gop v49 false (.ld1 v50) fun v51 => .gop v49 false (.bin 0 .neq v51 (AV.int .i64 (-1))) fun v52 => .gop v49 false (.mv v52) fun v53 => .gop v53 true (.fad 19 v1) fun v54 => .gop v53 true (.ld1 v54) fun v55 => .gop v53 true (.fad 18 v1) fun v56 => .gop v53 true (.ld1 v56) fun v57 => .gop v53 true (.bin 0 .geq v55 v57) fun v58 => .gop v49 false (.pick v53 v58 (AV.bool false)) fun v59 => .gop v45 true (.pick v49 (AV.bool true) v59) fun v60 => .op (.pick v45 v60 (AV.bool false)) fun v61 => .fin [.val v61]) fun t36 vs35 => tsel t36 1 (.leaf 1 vs35) .bad)
theorem c_impl_DeedOk (x0 : AV) : CC Try.prog n_impl_DeedOk [x0] (p_impl_DeedOk x0) := cc Try.func57 [1] (fun _ => []) (by kernel_rfl)
/- spec.DeedOk -/
def p_spec_DeedOk (x0 : AV) : Prog := .op (.box x0) fun v1 => .op (.fad 0 v1) fun v2 => .op (.ld1 v2) fun v3 => .op (.call n_spec_l1In [v3, AV.int .i64 1, AV.int .i64 4]) fun v4 => .op (.una .not v4) fun v5 => .gop v5 false (.fad 17 v1) fun v6 => .gop v5 false (.ld1 v6) fun v7 => .gop v5 false (.bin 0 .lss v7 (AV.int .i64 0)) fun v8 => .op (.pick v5 (AV.bool true) v8) fun v9 => .gop v9 false (.fad 13 v1) fun v10 => .gop v9 false (.ld1 v10) fun v11 => .gop v9 false (.bin 0 .lss v11 (AV.int .i64 0)) fun v12 => .op (.pick v9 (AV.bool true) v12) fun v13 => .gop v13 false (.fad 14 v1) fun v14 => .gop v13 false (.ld1 v14) fun v15 => .gop v13 false (.bin 0 .lss v15 (AV.int .i64 0)) fun v16 => .op (.pick v13 (AV.bool true) v16) fun v17 => .gop v17 false (.fad 15 v1) fun v18 => .gop v17 false (.ld1 v18) fun v19 => .gop v17 false (.bin 0 .lss v19 (AV.int .i64 0)) fun v20 => .op (.pick v17 (AV.bool true) v20) fun v21 => .gop v21 false (.fad 16 v1) fun v22 => .gop v21 false (.ld1 v22) fun v23 => .gop v21 false (.bin 0 .lss v23 (AV.int .i64 0)) fun v24 => .op (.pick v21 (AV.bool true) v24) fun v25 => .ite v25 (.fin [.val (AV.bool false)]) (.op (.fad 18 v1) fun v26 => .op (.ld1 v26) fun v27 => .op (.bin 0 .neq v27 (AV.int .i64 (-1))) fun v28 => .gop v28 true (.fad 18 v1) fun v29 => .gop v28 true (.ld1 v29) fun v30 => .gop v28 true (.fad 17 v1) fun v31 => .gop v28 true (.ld1 v31) fun v32 => .gop v28 true (.bin 0 .lss v30 v32) fun v33 => .op (.pick v28 v33 (AV.bool false)) fun v34 => .gop v34 false (.fad 19 v1) fun v35 => .gop v34 false (.ld1 v35) fun v36 => .gop v34 false (.bin 0 .neq v36 (AV.int .i64 (-1))) fun v37 => .gop v34 false (.mv v37) fun v38 => .gop v38 true (.fad 18 v1) fun v39 => .gop v38 true (.ld1 v39) fun v40 => .gop v38 true (.bin 0 .eql v40 (AV.int .i64 (-1))) fun v41 => .gop v38 true (.mv v41) fun v42 => .gop v42 false (.fad 19 v1) fun v43 => .gop v42 false (.ld1 v43) fun v44 => .gop v42 false (.fad 18 v1) fun v45 => .gop v42 false (.ld1 v45) fun v46 => .gop v42 false (.bin 0 .lss v44 v46) fun v47 => .gop v38 true (.pick v42 (AV.bool true) v47) fun v48 => .gop v34 false (.pick v38 v48 (AV.bool false)) fun v49 => .op (.pick v34 (AV.bool true) v49) fun v50 => .ite v50 (.fin [.val (AV.bool false)]) (.op (.fad 0 v1) fun v51 => .op (.ld1 v51) fun v52 => .op (.bin 0 .eql v52 (AV.int .i64 1)) fun v53 => .gop v53 true (.fad 18 v1) fun v54 => .gop v53 true (.ld1 v54) fun v55 => .gop v53 true (.bin 0 .neq v55 (AV.int .i64 (-1))) fun v56 => .op (.pick v53 v56 (AV.bool false)) fun v57 => .ite v57 (.op (.fad 10 v1) fun v58 => .op (.ld1 v58) fun v59 => .op (.call n_spec_l1In [v59, AV.int .i64 1, AV.int .i64 5]) fun v60 => .fin [.val v60]) (.op (.fad 10 v1) fun v61 => .op (.ld1 v61) fun v62 => .op (.bin 0 .eql v62 (AV.int .i64 0)) fun v63 => .fin [.val v63])))
theorem c_spec_DeedOk (x0 : AV) : CC Try.prog n_spec_DeedOk [x0] (p_spec_DeedOk x0) := cc Try.func58 [] (fun _ => []) (by kernel_rfl)
/- impl.HoldsRule -/
def p_impl_HoldsRule (x0 : AV) : Prog := .op (.box x0) fun v1 => .op (.fad 0 v1) fun v2 => .op (.ld1 v2) fun v3 => .op (.bin 0 .eql v3 (AV.int .i64 2)) fun v4 => .gop v4 true (.fad 1 v1) fun v5 => .gop v4 true (.ld1 v5) fun v6 => .gop v4 true (.bin 0 .eql v6 (AV.int .i64 2)) fun v7 => .op (.pick v4 v7 (AV.bool false)) fun v8 => .fin [.val v8]
theorem c_impl_HoldsRule (x0 : AV) : CC Try.prog n_impl_HoldsRule [x0] (p_impl_HoldsRule x0) := cc Try.func75 [] (fun _ => []) (by kernel_rfl)
/- spec.HoldsRule -/
def p_spec_HoldsRule (x0 : AV) : Prog := .op (.box x0) fun v1 => .op (.fad 0 v1) fun v2 => .op (.ld1 v2) fun v3 => .op (.bin 0 .eql v3 (AV.int .i64 2)) fun v4 => .gop v4 true (.fad 1 v1) fun v5 => .gop v4 true (.ld1 v5) fun v6 => .gop v4 true (.bin 0 .eql v6 (AV.int .i64 2)) fun v7 => .op (.pick v4 v7 (AV.bool false)) fun v8 => .fin [.val v8]
theorem c_spec_HoldsRule (x0 : AV) : CC Try.prog n_spec_HoldsRule [x0] (p_spec_HoldsRule x0) := cc Try.func76 [] (fun _ => []) (by kernel_rfl)
end
theorem s_impl_Ahead {h : AH} {a b : Deed} {v v' : AV} : RCalls Try.prog n_impl_Ahead [.agg (a.cs v), .agg (b.cs v')] h (.bool (bp (a.res ≠ -1 ∧ a.res < b.inv))) := by
  refine reader (c_impl_Ahead _ _) (by simp only [old]) ?_
  unfold p_impl_Ahead
  (repeat' first|refine vs ?_|(refine br ?_ ?_<;>intro _<;>try(exfalso;first|omega|contradiction))|((with_reducible refine g_idx ?_);((first|refine ix ?_|refine ixi ?_|(refine ixg ?_;intro _ _)|(refine ixgi ?_;intro _ _));first|rintro _ _ _ _ _ ⟨rfl,rfl⟩ _|rintro _ _ _ _ _ ⟨_,rfl,_⟩ _|rintro _ _ _ _ _ ⟨_,_,_,_,rfl,rfl,_,_⟩ _|intro _ _ _ _ _ _ _))|(refine sx ?_;intro _ _)|((with_reducible refine g_awp ?_);simp only [g0,g1,g2]))
  all_goals first
    | exact pt ⟨by omega, by omega⟩
    | exact pf fun k => by obtain ⟨a1, a2⟩ := k; omega
theorem s_spec_Ahead {h : AH} {a b : Deed} {v v' : AV} : RCalls Try.prog n_spec_Ahead [.agg (a.cs v), .agg (b.cs v')] h (.bool (bp (a.res ≠ -1 ∧ a.res < b.inv))) := by
  refine reader (c_spec_Ahead _ _) (by simp only [old]) ?_
  unfold p_spec_Ahead
  (repeat' first|refine vs ?_|(refine br ?_ ?_<;>intro _<;>try(exfalso;first|omega|contradiction))|((with_reducible refine g_idx ?_);((first|refine ix ?_|refine ixi ?_|(refine ixg ?_;intro _ _)|(refine ixgi ?_;intro _ _));first|rintro _ _ _ _ _ ⟨rfl,rfl⟩ _|rintro _ _ _ _ _ ⟨_,rfl,_⟩ _|rintro _ _ _ _ _ ⟨_,_,_,_,rfl,rfl,_,_⟩ _|intro _ _ _ _ _ _ _))|(refine sx ?_;intro _ _)|((with_reducible refine g_awp ?_);simp only [g0,g1,g2]))
  all_goals first
    | exact pt ⟨by omega, by omega⟩
    | exact pf fun k => by obtain ⟨a1, a2⟩ := k; omega

def deedOk (d : Deed) : Prop := (1 ≤ d.op ∧ d.op ≤ 4) ∧ 0 ≤ d.inv ∧ 0 ≤ d.took ∧ 0 ≤ d.n ∧ 0 ≤ d.forgot ∧ 0 ≤ d.now ∧ ((d.op = 1 ∧ d.lin ≠ -1 ∧ 1 ≤ d.code ∧ d.code ≤ 5) ∨ (¬ (d.op = 1 ∧ d.lin ≠ -1) ∧ d.code = 0)) ∧ (d.lin = -1 ∨ d.inv ≤ d.lin) ∧ (d.res = -1 ∨ (d.lin ≠ -1 ∧ d.lin ≤ d.res))
theorem w_min4 {P : Program} {h : AH} {Q : Nat → List AV → AH → Prop} {k : AV → Prog} {a b c d : Int} (hk : (k (.int .i64 (min (min (min a b) c) d))).awp P h Q) : (Prog.op (.mnx true [.int .i64 a, .int .i64 b, .int .i64 c, .int .i64 d]) k).awp P h Q := by
  simp only [Prog.awp, AOp.go, amnx, amnxGo, if_true]
  have e : ∀ x y : Int, (if y < x then y else x) = min x y := fun x y => by split <;> omega
  simp only [e]
  exact hk
theorem s_impl_DeedOk {h : AH} {d : Deed} {v : AV} : RCalls Try.prog n_impl_DeedOk [.agg (d.cs v)] h (.bool (bp (deedOk d))) := by
  refine reader (c_impl_DeedOk _) (by simp only [old]) ?_
  unfold p_impl_DeedOk
  (repeat' first|refine vs ?_|(refine br ?_ ?_<;>intro _<;>try(exfalso;first|omega|contradiction))|((with_reducible refine g_callf n_impl_within ?_);(refine aw_rcall_b s_impl_within ?_ ?_ <;> intro hb <;> first | replace hb := inB_t hb | replace hb := inB_f hb))|((with_reducible refine g_idx ?_);((first|refine ix ?_|refine ixi ?_|(refine ixg ?_;intro _ _)|(refine ixgi ?_;intro _ _));first|rintro _ _ _ _ _ ⟨rfl,rfl⟩ _|rintro _ _ _ _ _ ⟨_,rfl,_⟩ _|rintro _ _ _ _ _ ⟨_,_,_,_,rfl,rfl,_,_⟩ _|intro _ _ _ _ _ _ _))|(refine sx ?_;intro _ _)|((with_reducible refine g_awp ?_);simp only [g0,g1,g2]))
  all_goals first
    | (refine pf ?_; unfold deedOk; omega)
    | skip
  refine w_min4 ?_
  (repeat' first|refine vs ?_|(refine br ?_ ?_<;>intro _<;>try(exfalso;first|omega|contradiction))|((with_reducible refine g_callf n_impl_within ?_);(refine aw_rcall_b s_impl_within ?_ ?_ <;> intro hb <;> first | replace hb := inB_t hb | replace hb := inB_f hb))|((with_reducible refine g_idx ?_);((first|refine ix ?_|refine ixi ?_|(refine ixg ?_;intro _ _)|(refine ixgi ?_;intro _ _));first|rintro _ _ _ _ _ ⟨rfl,rfl⟩ _|rintro _ _ _ _ _ ⟨_,rfl,_⟩ _|rintro _ _ _ _ _ ⟨_,_,_,_,rfl,rfl,_,_⟩ _|intro _ _ _ _ _ _ _))|(refine sx ?_;intro _ _)|((with_reducible refine g_awp ?_);simp only [g0,g1,g2]))
  all_goals first
    | (refine pt ?_; unfold deedOk; omega)
    | (refine pf ?_; unfold deedOk; omega)
theorem s_spec_DeedOk {h : AH} {d : Deed} {v : AV} : RCalls Try.prog n_spec_DeedOk [.agg (d.cs v)] h (.bool (bp (deedOk d))) := by
  refine reader (c_spec_DeedOk _) (by simp only [old]) ?_
  unfold p_spec_DeedOk
  (repeat' first|refine vs ?_|(refine br ?_ ?_<;>intro _<;>try(exfalso;first|omega|contradiction))|((with_reducible refine g_callf n_spec_l1In ?_);(refine aw_rcall_b s_spec_l1In ?_ ?_ <;> intro hb <;> first | replace hb := inB_t hb | replace hb := inB_f hb))|((with_reducible refine g_idx ?_);((first|refine ix ?_|refine ixi ?_|(refine ixg ?_;intro _ _)|(refine ixgi ?_;intro _ _));first|rintro _ _ _ _ _ ⟨rfl,rfl⟩ _|rintro _ _ _ _ _ ⟨_,rfl,_⟩ _|rintro _ _ _ _ _ ⟨_,_,_,_,rfl,rfl,_,_⟩ _|intro _ _ _ _ _ _ _))|(refine sx ?_;intro _ _)|((with_reducible refine g_awp ?_);simp only [g0,g1,g2]))
  all_goals first
    | (refine pt ?_; unfold deedOk; omega)
    | (refine pf ?_; unfold deedOk; omega)

theorem s_impl_HoldsRule {h : AH} {t : Task} {v v' : AV} : RCalls Try.prog n_impl_HoldsRule [.agg (t.cs v v')] h (.bool (bp (t.op = 2 ∧ t.pc = 2))) := by
  refine reader (c_impl_HoldsRule _) (by simp only [old]) ?_
  unfold p_impl_HoldsRule
  (repeat' first|refine vs ?_|(refine br ?_ ?_<;>intro _<;>try(exfalso;first|omega|contradiction))|((with_reducible refine g_idx ?_);((first|refine ix ?_|refine ixi ?_|(refine ixg ?_;intro _ _)|(refine ixgi ?_;intro _ _));first|rintro _ _ _ _ _ ⟨rfl,rfl⟩ _|rintro _ _ _ _ _ ⟨_,rfl,_⟩ _|rintro _ _ _ _ _ ⟨_,_,_,_,rfl,rfl,_,_⟩ _|intro _ _ _ _ _ _ _))|(refine sx ?_;intro _ _)|((with_reducible refine g_awp ?_);simp only [g0,g1,g2]))
  all_goals first
    | exact pt ⟨by omega, by omega⟩
    | exact pf fun k => by obtain ⟨a1, a2⟩ := k; omega
theorem s_spec_HoldsRule {h : AH} {t : Task} {v v' : AV} : RCalls Try.prog n_spec_HoldsRule [.agg (t.cs v v')] h (.bool (bp (t.op = 2 ∧ t.pc = 2))) := by
  refine reader (c_spec_HoldsRule _) (by simp only [old]) ?_
  unfold p_spec_HoldsRule
  (repeat' first|refine vs ?_|(refine br ?_ ?_<;>intro _<;>try(exfalso;first|omega|contradiction))|((with_reducible refine g_idx ?_);((first|refine ix ?_|refine ixi ?_|(refine ixg ?_;intro _ _)|(refine ixgi ?_;intro _ _));first|rintro _ _ _ _ _ ⟨rfl,rfl⟩ _|rintro _ _ _ _ _ ⟨_,rfl,_⟩ _|rintro _ _ _ _ _ ⟨_,_,_,_,rfl,rfl,_,_⟩ _|intro _ _ _ _ _ _ _))|(refine sx ?_;intro _ _)|((with_reducible refine g_awp ?_);simp only [g0,g1,g2]))
  all_goals first
    | exact pt ⟨by omega, by omega⟩
    | exact pf fun k => by obtain ⟨a1, a2⟩ := k; omega

end Go.Proofs.Ytpcgbddmdipfbaa
