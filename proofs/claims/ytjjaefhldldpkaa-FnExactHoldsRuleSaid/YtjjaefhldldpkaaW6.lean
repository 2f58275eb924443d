/- Deeds and tasks: the small functions. -/
import Derived.Test.YtjjaefhldldpkaaW5
set_option linter.unusedSimpArgs false
set_option linter.unusedVariables false
set_option maxHeartbeats 1000000
namespace Go.Proofs.Ytjjaefhldldpkaa
open Go Go.Ab
section
/- impl.Ahead -/
def p_impl_Ahead (x0 x1 : AV) : Prog := .op (.box x0) fun v => .op (.box x1) fun v_1 => .op (.fad 19 v) fun v_2 => .op (.ld1 v_2) fun v_3 => .op (.bin 0 .neq v_3 (AV.int .i64 (-1))) fun v_4 => .gop v_4 true (.fad 19 v) fun v => .gop v_4 true (.ld1 v) fun v => .gop v_4 true (.fad 17 v_1) fun v_5 => .gop v_4 true (.ld1 v_5) fun v_6 => .gop v_4 true (.bin 0 .lss v v_6) fun v => .op (.pick v_4 v (AV.bool false)) fun v => .fin [.val v]
theorem c_impl_Ahead (x0 x1 : AV) {h : AH} {R : AV → AH → Prop} (g : (p_impl_Ahead x0 x1).awp Try.prog h fun t vs h' => t = 1 ∧ ∃ v, vs = [v] ∧ R v h') : ACalls Try.prog n_impl_Ahead [x0, x1] h R :=
  acalls_of follows Try.func30 (by kernel_rfl) (by kernel_rfl) [] (fun _ => []) (show trF Try.prog Try.f30 _ _ [x0, x1] = p_impl_Ahead x0 x1 by kernel_rfl) g
/- spec.Ahead -/
def p_spec_Ahead (x0 x1 : AV) : Prog := .op (.box x0) fun v => .op (.box x1) fun v_1 => .op (.fad 19 v) fun v_2 => .op (.ld1 v_2) fun v_3 => .op (.bin 0 .neq v_3 (AV.int .i64 (-1))) fun v_4 => .gop v_4 true (.fad 19 v) fun v => .gop v_4 true (.ld1 v) fun v => .gop v_4 true (.fad 17 v_1) fun v_5 => .gop v_4 true (.ld1 v_5) fun v_6 => .gop v_4 true (.bin 0 .lss v v_6) fun v => .op (.pick v_4 v (AV.bool false)) fun v => .fin [.val v]
theorem c_spec_Ahead (x0 x1 : AV) {h : AH} {R : AV → AH → Prop} (g : (p_spec_Ahead x0 x1).awp Try.prog h fun t vs h' => t = 1 ∧ ∃ v, vs = [v] ∧ R v h') : ACalls Try.prog n_spec_Ahead [x0, x1] h R :=
  acalls_of follows Try.func28 (by kernel_rfl) (by kernel_rfl) [] (fun _ => []) (show trF Try.prog Try.f28 _ _ [x0, x1] = p_spec_Ahead x0 x1 by kernel_rfl) g
/- impl.DeedOk -/
def p_impl_DeedOk (x0 : AV) : Prog := .op (.box x0) fun v => .op (.fad 0 v) fun v_1 => .op (.ld1 v_1) fun v_2 => .op (.call n_impl_within [v_2, AV.int .i64 1, AV.int .i64 4]) fun v_3 => .op (.una .not v_3) fun v_4 => .gop v_4 false (.fad 17 v) fun v_5 => .gop v_4 false (.ld1 v_5) fun v_6 => .gop v_4 false (.bin 0 .lss v_6 (AV.int .i64 0)) fun v_7 => .op (.pick v_4 (AV.bool true) v_7) fun v_8 => .gop v_8 false (.fad 13 v) fun v_9 => .gop v_8 false (.ld1 v_9) fun v_10 => .gop v_8 false (.fad 14 v) fun v_11 => .gop v_8 false (.ld1 v_11) fun v_12 => .gop v_8 false (.fad 15 v) fun v_13 => .gop v_8 false (.ld1 v_13) fun v_14 => .gop v_8 false (.fad 16 v) fun v_15 => .gop v_8 false (.ld1 v_15) fun v_16 => .gop v_8 false (.mnx true [v_10, v_12, v_14, v_16]) fun v_17 => .gop v_8 false (.bin 0 .lss v_17 (AV.int .i64 0)) fun v_18 => .op (.pick v_8 (AV.bool true) v_18) fun v_19 => .ite v_19 (.fin [.val (AV.bool false)]) (.op (.fad 0 v) fun v_20 => .op (.ld1 v_20) fun v_21 => .op (.bin 0 .eql v_21 (AV.int .i64 1)) fun v_22 => .gop v_22 true (.fad 18 v) fun v_23 => .gop v_22 true (.ld1 v_23) fun v_24 => .gop v_22 true (.bin 0 .neq v_24 (AV.int .i64 (-1))) fun v_25 => .op (.pick v_22 v_25 (AV.bool false)) fun v_26 => .scope (.ite v_26 (.op (.fad 10 v) fun v => .op (.ld1 v) fun v => .op (.call n_impl_within [v, AV.int .i64 1, AV.int .i64 5]) fun v => .op (.una .not v) fun v => .ite v (.fin [.val (AV.bool false)]) (.leaf 0 [])) (.op (.fad 10 v) fun v => .op (.ld1 v) fun v => .op (.bin 0 .neq v (AV.int .i64 0)) fun v => .ite v (.fin [.val (AV.bool false)]) (.leaf 0 []))) (fun vs => .op (.fad 18 v) fun v_27 => .op (.ld1 v_27) fun v_28 => .op (.bin 0 .eql v_28 (AV.int .i64 (-1))) fun v_29 => .gop v_29 false (.fad 18 v) fun v_30 => .gop v_29 false (.ld1 v_30) fun v_31 => .gop v_29 false (.fad 17 v) fun v_32 => .gop v_29 false (.ld1 v_32) fun v_33 => .gop v_29 false (.bin 0 .geq v_31 v_33) fun v_34 => .op (.pick v_29 (AV.bool true) v_34) fun v_35 => .gop v_35 true (.fad 19 v) fun v_36 => .gop v_35 true (.ld1 v_36) fun v_37 => .gop v_35 true (.bin 0 .eql v_37 (AV.int .i64 (-1))) fun v_38 => .gop v_35 true (.mv v_38) fun v_39 => .gop v_39 false (.fad 18 v) fun v_40 => .gop v_39 false (.ld1 v_40) fun v_41 => .gop v_39 false (.bin 0 .neq v_41 (AV.int .i64 (-1))) fun v_42 => .gop v_39 false (.mv v_42) fun v_43 => .gop v_43 true (.fad 19 v) fun v_44 => .gop v_43 true (.ld1 v_44) fun v_45 => .gop v_43 true (.fad 18 v) fun v => .gop v_43 true (.ld1 v) fun v => .gop v_43 true (.bin 0 .geq v_45 v) fun v => .gop v_39 false (.pick v_43 v (AV.bool false)) fun v => .gop v_35 true (.pick v_39 (AV.bool true) v) fun v => .op (.pick v_35 v (AV.bool false)) fun v => .fin [.val v]) fun t vs => tsel t 1 (.leaf 1 vs) .bad)
theorem c_impl_DeedOk (x0 : AV) {h : AH} {R : AV → AH → Prop} (g : (p_impl_DeedOk x0).awp Try.prog h fun t vs h' => t = 1 ∧ ∃ v, vs = [v] ∧ R v h') : ACalls Try.prog n_impl_DeedOk [x0] h R :=
  acalls_of follows Try.func48 (by kernel_rfl) (by kernel_rfl) [1] (fun _ => []) (show trF Try.prog Try.f48 _ _ [x0] = p_impl_DeedOk x0 by kernel_rfl) g
/- spec.DeedOk -/
def p_spec_DeedOk (x0 : AV) : Prog := .op (.box x0) fun v => .op (.fad 0 v) fun v_1 => .op (.ld1 v_1) fun v_2 => .op (.call n_spec_l1In [v_2, AV.int .i64 1, AV.int .i64 4]) fun v_3 => .op (.una .not v_3) fun v_4 => .gop v_4 false (.fad 17 v) fun v_5 => .gop v_4 false (.ld1 v_5) fun v_6 => .gop v_4 false (.bin 0 .lss v_6 (AV.int .i64 0)) fun v_7 => .op (.pick v_4 (AV.bool true) v_7) fun v_8 => .gop v_8 false (.fad 13 v) fun v_9 => .gop v_8 false (.ld1 v_9) fun v_10 => .gop v_8 false (.bin 0 .lss v_10 (AV.int .i64 0)) fun v_11 => .op (.pick v_8 (AV.bool true) v_11) fun v_12 => .gop v_12 false (.fad 14 v) fun v_13 => .gop v_12 false (.ld1 v_13) fun v_14 => .gop v_12 false (.bin 0 .lss v_14 (AV.int .i64 0)) fun v_15 => .op (.pick v_12 (AV.bool true) v_15) fun v_16 => .gop v_16 false (.fad 15 v) fun v_17 => .gop v_16 false (.ld1 v_17) fun v_18 => .gop v_16 false (.bin 0 .lss v_18 (AV.int .i64 0)) fun v_19 => .op (.pick v_16 (AV.bool true) v_19) fun v_20 => .gop v_20 false (.fad 16 v) fun v_21 => .gop v_20 false (.ld1 v_21) fun v_22 => .gop v_20 false (.bin 0 .lss v_22 (AV.int .i64 0)) fun v_23 => .op (.pick v_20 (AV.bool true) v_23) fun v_24 => .ite v_24 (.fin [.val (AV.bool false)]) (.op (.fad 18 v) fun v_25 => .op (.ld1 v_25) fun v_26 => .op (.bin 0 .neq v_26 (AV.int .i64 (-1))) fun v_27 => .gop v_27 true (.fad 18 v) fun v_28 => .gop v_27 true (.ld1 v_28) fun v_29 => .gop v_27 true (.fad 17 v) fun v_30 => .gop v_27 true (.ld1 v_30) fun v_31 => .gop v_27 true (.bin 0 .lss v_29 v_31) fun v_32 => .op (.pick v_27 v_32 (AV.bool false)) fun v_33 => .gop v_33 false (.fad 19 v) fun v_34 => .gop v_33 false (.ld1 v_34) fun v_35 => .gop v_33 false (.bin 0 .neq v_35 (AV.int .i64 (-1))) fun v_36 => .gop v_33 false (.mv v_36) fun v_37 => .gop v_37 true (.fad 18 v) fun v_38 => .gop v_37 true (.ld1 v_38) fun v_39 => .gop v_37 true (.bin 0 .eql v_39 (AV.int .i64 (-1))) fun v_40 => .gop v_37 true (.mv v_40) fun v_41 => .gop v_41 false (.fad 19 v) fun v_42 => .gop v_41 false (.ld1 v_42) fun v_43 => .gop v_41 false (.fad 18 v) fun v_44 => .gop v_41 false (.ld1 v_44) fun v_45 => .gop v_41 false (.bin 0 .lss v_43 v_45) fun v_46 => .gop v_37 true (.pick v_41 (AV.bool true) v_46) fun v_47 => .gop v_33 false (.pick v_37 v_47 (AV.bool false)) fun v_48 => .op (.pick v_33 (AV.bool true) v_48) fun v_49 => .ite v_49 (.fin [.val (AV.bool false)]) (.op (.fad 0 v) fun v_50 => .op (.ld1 v_50) fun v_51 => .op (.bin 0 .eql v_51 (AV.int .i64 1)) fun v_52 => .gop v_52 true (.fad 18 v) fun v_53 => .gop v_52 true (.ld1 v_53) fun v_54 => .gop v_52 true (.bin 0 .neq v_54 (AV.int .i64 (-1))) fun v_55 => .op (.pick v_52 v_55 (AV.bool false)) fun v_56 => .ite v_56 (.op (.fad 10 v) fun v => .op (.ld1 v) fun v => .op (.call n_spec_l1In [v, AV.int .i64 1, AV.int .i64 5]) fun v => .fin [.val v]) (.op (.fad 10 v) fun v => .op (.ld1 v) fun v => .op (.bin 0 .eql v (AV.int .i64 0)) fun v => .fin [.val v])))
theorem c_spec_DeedOk (x0 : AV) {h : AH} {R : AV → AH → Prop} (g : (p_spec_DeedOk x0).awp Try.prog h fun t vs h' => t = 1 ∧ ∃ v, vs = [v] ∧ R v h') : ACalls Try.prog n_spec_DeedOk [x0] h R :=
  acalls_of follows Try.func47 (by kernel_rfl) (by kernel_rfl) [] (fun _ => []) (show trF Try.prog Try.f47 _ _ [x0] = p_spec_DeedOk x0 by kernel_rfl) g
/- impl.HoldsRule -/
def p_impl_HoldsRule (x0 : AV) : Prog := .op (.box x0) fun v => .op (.fad 0 v) fun v_1 => .op (.ld1 v_1) fun v_2 => .op (.bin 0 .eql v_2 (AV.int .i64 2)) fun v_3 => .gop v_3 true (.fad 1 v) fun v => .gop v_3 true (.ld1 v) fun v => .gop v_3 true (.bin 0 .eql v (AV.int .i64 2)) fun v => .op (.pick v_3 v (AV.bool false)) fun v => .fin [.val v]
theorem c_impl_HoldsRule (x0 : AV) {h : AH} {R : AV → AH → Prop} (g : (p_impl_HoldsRule x0).awp Try.prog h fun t vs h' => t = 1 ∧ ∃ v, vs = [v] ∧ R v h') : ACalls Try.prog n_impl_HoldsRule [x0] h R :=
  acalls_of follows Try.func52 (by kernel_rfl) (by kernel_rfl) [] (fun _ => []) (show trF Try.prog Try.f52 _ _ [x0] = p_impl_HoldsRule x0 by kernel_rfl) g
/- spec.HoldsRule -/
def p_spec_HoldsRule (x0 : AV) : Prog := .op (.box x0) fun v => .op (.fad 0 v) fun v_1 => .op (.ld1 v_1) fun v_2 => .op (.bin 0 .eql v_2 (AV.int .i64 2)) fun v_3 => .gop v_3 true (.fad 1 v) fun v => .gop v_3 true (.ld1 v) fun v => .gop v_3 true (.bin 0 .eql v (AV.int .i64 2)) fun v => .op (.pick v_3 v (AV.bool false)) fun v => .fin [.val v]
theorem c_spec_HoldsRule (x0 : AV) {h : AH} {R : AV → AH → Prop} (g : (p_spec_HoldsRule x0).awp Try.prog h fun t vs h' => t = 1 ∧ ∃ v, vs = [v] ∧ R v h') : ACalls Try.prog n_spec_HoldsRule [x0] h R :=
  acalls_of follows Try.func50 (by kernel_rfl) (by kernel_rfl) [] (fun _ => []) (show trF Try.prog Try.f50 _ _ [x0] = p_spec_HoldsRule x0 by kernel_rfl) g
/- impl.Deadline -/
def p_impl_Deadline (x0 x1 : AV) : Prog := .op (.box x0) fun v => .op (.fad 1 v) fun v => .op (.ld1 v) fun v => .op (.call n_impl_Add [x1, v]) fun v => .fin [.val v]
theorem c_impl_Deadline (x0 x1 : AV) {h : AH} {R : AV → AH → Prop} (g : (p_impl_Deadline x0 x1).awp Try.prog h fun t vs h' => t = 1 ∧ ∃ v, vs = [v] ∧ R v h') : ACalls Try.prog n_impl_Deadline [x0, x1] h R :=
  acalls_of follows Try.func18 (by kernel_rfl) (by kernel_rfl) [] (fun _ => []) (show trF Try.prog Try.f18 _ _ [x0, x1] = p_impl_Deadline x0 x1 by kernel_rfl) g
/- spec.Deadline -/
def p_spec_Deadline (x0 x1 : AV) : Prog := .op (.box x0) fun v => .op (.fad 1 v) fun v => .op (.ld1 v) fun v => .op (.call n_spec_Add [x1, v]) fun v => .fin [.val v]
theorem c_spec_Deadline (x0 x1 : AV) {h : AH} {R : AV → AH → Prop} (g : (p_spec_Deadline x0 x1).awp Try.prog h fun t vs h' => t = 1 ∧ ∃ v, vs = [v] ∧ R v h') : ACalls Try.prog n_spec_Deadline [x0, x1] h R :=
  acalls_of follows Try.func16 (by kernel_rfl) (by kernel_rfl) [] (fun _ => []) (show trF Try.prog Try.f16 _ _ [x0, x1] = p_spec_Deadline x0 x1 by kernel_rfl) g
end
theorem s_impl_Ahead {h : AH} {a b : Deed} {v v' : AV} : RCalls Try.prog n_impl_Ahead [.agg (a.cs v), .agg (b.cs v')] h (.bool (bp (a.res ≠ -1 ∧ a.res < b.inv))) := by
  refine reader (c_impl_Ahead _ _) (by simp only [old]) ?_
  unfold p_impl_Ahead
  (repeat' first|refine vs ?_|(refine br ?_ ?_<;>intro _<;>try(exfalso;first|omega|contradiction))|((with_reducible refine g_idx ?_);((first|refine ix ?_|refine ixi ?_|(refine ixg ?_;intro _ _)|(refine ixgi ?_;intro _ _));first|rintro _ _ _ _ _ ⟨rfl,rfl⟩ _|rintro _ _ _ _ _ ⟨_,rfl,_⟩ _|rintro _ _ _ _ _ ⟨_,_,_,_,rfl,rfl,_,_⟩ _|intro _ _ _ _ _ _ _))|(refine sx ?_;intro _ _))
  all_goals first
    | exact pt ⟨by omega, by omega⟩
    | exact pf fun k => by obtain ⟨a1, a2⟩ := k; omega
theorem s_spec_Ahead {h : AH} {a b : Deed} {v v' : AV} : RCalls Try.prog n_spec_Ahead [.agg (a.cs v), .agg (b.cs v')] h (.bool (bp (a.res ≠ -1 ∧ a.res < b.inv))) := by
  refine reader (c_spec_Ahead _ _) (by simp only [old]) ?_
  unfold p_spec_Ahead
  (repeat' first|refine vs ?_|(refine br ?_ ?_<;>intro _<;>try(exfalso;first|omega|contradiction))|((with_reducible refine g_idx ?_);((first|refine ix ?_|refine ixi ?_|(refine ixg ?_;intro _ _)|(refine ixgi ?_;intro _ _));first|rintro _ _ _ _ _ ⟨rfl,rfl⟩ _|rintro _ _ _ _ _ ⟨_,rfl,_⟩ _|rintro _ _ _ _ _ ⟨_,_,_,_,rfl,rfl,_,_⟩ _|intro _ _ _ _ _ _ _))|(refine sx ?_;intro _ _))
  all_goals first
    | exact pt ⟨by omega, by omega⟩
    | exact pf fun k => by obtain ⟨a1, a2⟩ := k; omega

def deedOk (d : Deed) : Prop := (1 ≤ d.op ∧ d.op ≤ 4) ∧ 0 ≤ d.inv ∧ 0 ≤ d.took ∧ 0 ≤ d.n ∧ 0 ≤ d.forgot ∧ 0 ≤ d.now ∧ ((d.op = 1 ∧ d.lin ≠ -1 ∧ 1 ≤ d.code ∧ d.code ≤ 5) ∨ (¬ (d.op = 1 ∧ d.lin ≠ -1) ∧ d.code = 0)) ∧ (d.lin = -1 ∨ d.inv ≤ d.lin) ∧ (d.res = -1 ∨ (d.lin ≠ -1 ∧ d.lin ≤ d.res))
theorem w_min4 {P : Program} {h : AH} {Q : Nat → List AV → AH → Prop} {k : AV → Prog} {a b c d : Int} (hk : (k (.int .i64 (min (min (min a b) c) d))).awp P h Q) : (Prog.op (.mnx true [.int .i64 a, .int .i64 b, .int .i64 c, .int .i64 d]) k).awp P h Q := by
  simp only [Prog.awp, AOp.go, amnx, amnxGo, if_true]
  have e : ∀ x y : Int, (if y < x then y else x) = min x y := fun x y => by split <;> omega
  simp only [e]
  exact hk
theorem s_impl_DeedOk {h : AH} {d : Deed} {v : AV} : RCalls Try.prog n_impl_DeedOk [.agg (d.cs v)] h (.bool (bp (deedOk d))) := by
  refine reader (c_impl_DeedOk _) (by simp only [old]) ?_
  unfold p_impl_DeedOk
  (repeat' first|refine vs ?_|(refine br ?_ ?_<;>intro _<;>try(exfalso;first|omega|contradiction))|((with_reducible refine g_callf n_impl_within ?_);(refine aw_rcall_b s_impl_within ?_ ?_ <;> intro hb <;> first | replace hb := inB_t hb | replace hb := inB_f hb))|((with_reducible refine g_idx ?_);((first|refine ix ?_|refine ixi ?_|(refine ixg ?_;intro _ _)|(refine ixgi ?_;intro _ _));first|rintro _ _ _ _ _ ⟨rfl,rfl⟩ _|rintro _ _ _ _ _ ⟨_,rfl,_⟩ _|rintro _ _ _ _ _ ⟨_,_,_,_,rfl,rfl,_,_⟩ _|intro _ _ _ _ _ _ _))|(refine sx ?_;intro _ _))
  all_goals first
    | (refine pf ?_; unfold deedOk; omega)
    | skip
  refine w_min4 ?_
  (repeat' first|refine vs ?_|(refine br ?_ ?_<;>intro _<;>try(exfalso;first|omega|contradiction))|((with_reducible refine g_callf n_impl_within ?_);(refine aw_rcall_b s_impl_within ?_ ?_ <;> intro hb <;> first | replace hb := inB_t hb | replace hb := inB_f hb))|((with_reducible refine g_idx ?_);((first|refine ix ?_|refine ixi ?_|(refine ixg ?_;intro _ _)|(refine ixgi ?_;intro _ _));first|rintro _ _ _ _ _ ⟨rfl,rfl⟩ _|rintro _ _ _ _ _ ⟨_,rfl,_⟩ _|rintro _ _ _ _ _ ⟨_,_,_,_,rfl,rfl,_,_⟩ _|intro _ _ _ _ _ _ _))|(refine sx ?_;intro _ _))
  all_goals first
    | (refine pt ?_; unfold deedOk; omega)
    | (refine pf ?_; unfold deedOk; omega)
theorem s_spec_DeedOk {h : AH} {d : Deed} {v : AV} : RCalls Try.prog n_spec_DeedOk [.agg (d.cs v)] h (.bool (bp (deedOk d))) := by
  refine reader (c_spec_DeedOk _) (by simp only [old]) ?_
  unfold p_spec_DeedOk
  (repeat' first|refine vs ?_|(refine br ?_ ?_<;>intro _<;>try(exfalso;first|omega|contradiction))|((with_reducible refine g_callf n_spec_l1In ?_);(refine aw_rcall_b s_spec_l1In ?_ ?_ <;> intro hb <;> first | replace hb := inB_t hb | replace hb := inB_f hb))|((with_reducible refine g_idx ?_);((first|refine ix ?_|refine ixi ?_|(refine ixg ?_;intro _ _)|(refine ixgi ?_;intro _ _));first|rintro _ _ _ _ _ ⟨rfl,rfl⟩ _|rintro _ _ _ _ _ ⟨_,rfl,_⟩ _|rintro _ _ _ _ _ ⟨_,_,_,_,rfl,rfl,_,_⟩ _|intro _ _ _ _ _ _ _))|(refine sx ?_;intro _ _))
  all_goals first
    | (refine pt ?_; unfold deedOk; omega)
    | (refine pf ?_; unfold deedOk; omega)

theorem s_impl_HoldsRule {h : AH} {t : Task} {v v' : AV} : RCalls Try.prog n_impl_HoldsRule [.agg (t.cs v v')] h (.bool (bp (t.op = 2 ∧ t.pc = 2))) := by
  refine reader (c_impl_HoldsRule _) (by simp only [old]) ?_
  unfold p_impl_HoldsRule
  (repeat' first|refine vs ?_|(refine br ?_ ?_<;>intro _<;>try(exfalso;first|omega|contradiction))|((with_reducible refine g_idx ?_);((first|refine ix ?_|refine ixi ?_|(refine ixg ?_;intro _ _)|(refine ixgi ?_;intro _ _));first|rintro _ _ _ _ _ ⟨rfl,rfl⟩ _|rintro _ _ _ _ _ ⟨_,rfl,_⟩ _|rintro _ _ _ _ _ ⟨_,_,_,_,rfl,rfl,_,_⟩ _|intro _ _ _ _ _ _ _))|(refine sx ?_;intro _ _))
  all_goals first
    | exact pt ⟨by omega, by omega⟩
    | exact pf fun k => by obtain ⟨a1, a2⟩ := k; omega
theorem s_spec_HoldsRule {h : AH} {t : Task} {v v' : AV} : RCalls Try.prog n_spec_HoldsRule [.agg (t.cs v v')] h (.bool (bp (t.op = 2 ∧ t.pc = 2))) := by
  refine reader (c_spec_HoldsRule _) (by simp only [old]) ?_
  unfold p_spec_HoldsRule
  (repeat' first|refine vs ?_|(refine br ?_ ?_<;>intro _<;>try(exfalso;first|omega|contradiction))|((with_reducible refine g_idx ?_);((first|refine ix ?_|refine ixi ?_|(refine ixg ?_;intro _ _)|(refine ixgi ?_;intro _ _));first|rintro _ _ _ _ _ ⟨rfl,rfl⟩ _|rintro _ _ _ _ _ ⟨_,rfl,_⟩ _|rintro _ _ _ _ _ ⟨_,_,_,_,rfl,rfl,_,_⟩ _|intro _ _ _ _ _ _ _))|(refine sx ?_;intro _ _))
  all_goals first
    | exact pt ⟨by omega, by omega⟩
    | exact pf fun k => by obtain ⟨a1, a2⟩ := k; omega

theorem s_impl_Deadline {h : AH} {c : Conf} {v : AV} {a : Int} : RCalls Try.prog n_impl_Deadline [.agg (c.cs v), .int .i64 a] h (.int .i64 (addc a c.wait)) := by
  refine reader (c_impl_Deadline _ _) (by simp only [old]) ?_
  unfold p_impl_Deadline
  (repeat' first|refine vs ?_|(refine br ?_ ?_<;>intro _<;>try(exfalso;first|omega|contradiction))|((with_reducible refine g_callf n_impl_Add ?_);refine aw_rcall s_impl_Add ?_)|((with_reducible refine g_idx ?_);((first|refine ix ?_|refine ixi ?_|(refine ixg ?_;intro _ _)|(refine ixgi ?_;intro _ _));first|rintro _ _ _ _ _ ⟨rfl,rfl⟩ _|rintro _ _ _ _ _ ⟨_,rfl,_⟩ _|rintro _ _ _ _ _ ⟨_,_,_,_,rfl,rfl,_,_⟩ _|intro _ _ _ _ _ _ _))|(refine sx ?_;intro _ _))
  exact pi rfl
theorem s_spec_Deadline {h : AH} {c : Conf} {v : AV} {a : Int} : RCalls Try.prog n_spec_Deadline [.agg (c.cs v), .int .i64 a] h (.int .i64 (addc a c.wait)) := by
  refine reader (c_spec_Deadline _ _) (by simp only [old]) ?_
  unfold p_spec_Deadline
  (repeat' first|refine vs ?_|(refine br ?_ ?_<;>intro _<;>try(exfalso;first|omega|contradiction))|((with_reducible refine g_callf n_spec_Add ?_);refine aw_rcall s_spec_Add ?_)|((with_reducible refine g_idx ?_);((first|refine ix ?_|refine ixi ?_|(refine ixg ?_;intro _ _)|(refine ixgi ?_;intro _ _));first|rintro _ _ _ _ _ ⟨rfl,rfl⟩ _|rintro _ _ _ _ _ ⟨_,rfl,_⟩ _|rintro _ _ _ _ _ ⟨_,_,_,_,rfl,rfl,_,_⟩ _|intro _ _ _ _ _ _ _))|(refine sx ?_;intro _ _))
  exact pi rfl
end Go.Proofs.Ytjjaefhldldpkaa
