/- Numbers, names and plain strings. -/
import Derived.Test.YtjjaefhldldpkaaNm
import Derived.Test.YtjjaefhldldpkaaAb35
set_option linter.unusedSimpArgs false
set_option linter.unusedVariables false
namespace Go.Proofs.Ytjjaefhldldpkaa
open Go Go.Ab
section
/- impl.within -/
def p_impl_within (x0 x1 x2 : AV) : Prog := .op (.bin 0 .geq x0 x1) fun v => .gop v true (.mv x0) fun v_1 => .gop v true (.mv x2) fun v_2 => .gop v true (.bin 0 .leq v_1 v_2) fun v_3 => .op (.pick v v_3 (AV.bool false)) fun v => .fin [.val v]
theorem c_impl_within (x0 x1 x2 : AV) {h : AH} {R : AV → AH → Prop} (g : (p_impl_within x0 x1 x2).awp Try.prog h fun t vs h' => t = 1 ∧ ∃ v, vs = [v] ∧ R v h') : ACalls Try.prog n_impl_within [x0, x1, x2] h R :=
  acalls_of follows Try.func89 (by kernel_rfl) (by kernel_rfl) [] (fun _ => []) (show trF Try.prog Try.f89 _ _ [x0, x1, x2] = p_impl_within x0 x1 x2 by kernel_rfl) g
/- spec.l1In -/
def p_spec_l1In (x0 x1 x2 : AV) : Prog := .op (.bin 0 .geq x0 x1) fun v => .gop v true (.mv x0) fun v_1 => .gop v true (.mv x2) fun v_2 => .gop v true (.bin 0 .leq v_1 v_2) fun v_3 => .op (.pick v v_3 (AV.bool false)) fun v => .fin [.val v]
theorem c_spec_l1In (x0 x1 x2 : AV) {h : AH} {R : AV → AH → Prop} (g : (p_spec_l1In x0 x1 x2).awp Try.prog h fun t vs h' => t = 1 ∧ ∃ v, vs = [v] ∧ R v h') : ACalls Try.prog n_spec_l1In [x0, x1, x2] h R :=
  acalls_of follows Try.func90 (by kernel_rfl) (by kernel_rfl) [] (fun _ => []) (show trF Try.prog Try.f90 _ _ [x0, x1, x2] = p_spec_l1In x0 x1 x2 by kernel_rfl) g
/- impl.Cap -/
def p_impl_Cap (x0 : AV) : Prog := .op (.mnx false [x0, AV.int .i64 0]) fun v => .op (.mnx true [v, AV.int .i64 2147483647]) fun v => .fin [.val v]
theorem c_impl_Cap (x0 : AV) {h : AH} {R : AV → AH → Prop} (g : (p_impl_Cap x0).awp Try.prog h fun t vs h' => t = 1 ∧ ∃ v, vs = [v] ∧ R v h') : ACalls Try.prog n_impl_Cap [x0] h R :=
  acalls_of follows Try.func108 (by kernel_rfl) (by kernel_rfl) [] (fun _ => []) (show trF Try.prog Try.f108 _ _ [x0] = p_impl_Cap x0 by kernel_rfl) g
/- spec.Cap -/
def p_spec_Cap (x0 : AV) : Prog := .op (.bin 0 .lss x0 (AV.int .i64 0)) fun v => .ite v (.fin [.val (AV.int .i64 0)]) (.op (.bin 0 .gtr x0 (AV.int .i64 2147483647)) fun v => .ite v (.fin [.val (AV.int .i64 2147483647)]) (.fin [.val x0]))
theorem c_spec_Cap (x0 : AV) {h : AH} {R : AV → AH → Prop} (g : (p_spec_Cap x0).awp Try.prog h fun t vs h' => t = 1 ∧ ∃ v, vs = [v] ∧ R v h') : ACalls Try.prog n_spec_Cap [x0] h R :=
  acalls_of follows Try.func106 (by kernel_rfl) (by kernel_rfl) [] (fun _ => []) (show trF Try.prog Try.f106 _ _ [x0] = p_spec_Cap x0 by kernel_rfl) g
/- impl.Add -/
def p_impl_Add (x0 x1 : AV) : Prog := .op (.call n_impl_Cap [x0]) fun v => .op (.call n_impl_Cap [x1]) fun v_1 => .op (.bin 0 .add v v_1) fun v => .op (.call n_impl_Cap [v]) fun v => .fin [.val v]
theorem c_impl_Add (x0 x1 : AV) {h : AH} {R : AV → AH → Prop} (g : (p_impl_Add x0 x1).awp Try.prog h fun t vs h' => t = 1 ∧ ∃ v, vs = [v] ∧ R v h') : ACalls Try.prog n_impl_Add [x0, x1] h R :=
  acalls_of follows Try.func73 (by kernel_rfl) (by kernel_rfl) [] (fun _ => []) (show trF Try.prog Try.f73 _ _ [x0, x1] = p_impl_Add x0 x1 by kernel_rfl) g
/- spec.Add -/
def p_spec_Add (x0 x1 : AV) : Prog := .op (.call n_spec_Cap [x0]) fun v => .op (.call n_spec_Cap [x1]) fun v_1 => .op (.bin 0 .add v v_1) fun v => .op (.call n_spec_Cap [v]) fun v => .fin [.val v]
theorem c_spec_Add (x0 x1 : AV) {h : AH} {R : AV → AH → Prop} (g : (p_spec_Add x0 x1).awp Try.prog h fun t vs h' => t = 1 ∧ ∃ v, vs = [v] ∧ R v h') : ACalls Try.prog n_spec_Add [x0, x1] h R :=
  acalls_of follows Try.func71 (by kernel_rfl) (by kernel_rfl) [] (fun _ => []) (show trF Try.prog Try.f71 _ _ [x0, x1] = p_spec_Add x0 x1 by kernel_rfl) g
end
def inB (a lo hi : Int) : Bool := decide (lo ≤ a ∧ a ≤ hi)
theorem inB_t {a lo hi : Int} (h : inB a lo hi = true) : lo ≤ a ∧ a ≤ hi := by simpa [inB] using h
theorem inB_f {a lo hi : Int} (h : inB a lo hi = false) : ¬ (lo ≤ a ∧ a ≤ hi) := by simpa [inB] using h
theorem s_spec_l1In {h : AH} {a lo hi : Int} : RCalls Try.prog n_spec_l1In [.int .i64 a, .int .i64 lo, .int .i64 hi] h (.bool (inB a lo hi)) := by
  refine reader (c_spec_l1In _ _ _) (by simp only [old]) ?_
  unfold p_spec_l1In
  (repeat' first|refine vs ?_|(refine br ?_ ?_<;>intro _<;>try(exfalso;first|omega|contradiction))|((with_reducible refine g_idx ?_);((first|refine ix ?_|refine ixi ?_|(refine ixg ?_;intro _ _)|(refine ixgi ?_;intro _ _));first|rintro _ _ _ _ _ ⟨rfl,rfl⟩ _|rintro _ _ _ _ _ ⟨_,rfl,_⟩ _|rintro _ _ _ _ _ ⟨_,_,_,_,rfl,rfl,_,_⟩ _|intro _ _ _ _ _ _ _))|(refine sx ?_;intro _ _))
  all_goals (refine pb ?_; simp [inB]; omega)
theorem s_impl_within {h : AH} {a lo hi : Int} : RCalls Try.prog n_impl_within [.int .i64 a, .int .i64 lo, .int .i64 hi] h (.bool (inB a lo hi)) := by
  refine reader (c_impl_within _ _ _) (by simp only [old]) ?_
  unfold p_impl_within
  (repeat' first|refine vs ?_|(refine br ?_ ?_<;>intro _<;>try(exfalso;first|omega|contradiction))|((with_reducible refine g_idx ?_);((first|refine ix ?_|refine ixi ?_|(refine ixg ?_;intro _ _)|(refine ixgi ?_;intro _ _));first|rintro _ _ _ _ _ ⟨rfl,rfl⟩ _|rintro _ _ _ _ _ ⟨_,rfl,_⟩ _|rintro _ _ _ _ _ ⟨_,_,_,_,rfl,rfl,_,_⟩ _|intro _ _ _ _ _ _ _))|(refine sx ?_;intro _ _))
  all_goals (refine pb ?_; simp [inB]; omega)

def cap (n : Int) : Int := min (max n 0) 2147483647
theorem cap_b (n : Int) : 0 ≤ cap n ∧ cap n ≤ 2147483647 := by unfold cap; omega
theorem s_impl_Cap {h : AH} {a : Int} : RCalls Try.prog n_impl_Cap [.int .i64 a] h (.int .i64 (cap a)) := by
  refine reader (c_impl_Cap _) (by simp only [old]) ?_
  unfold p_impl_Cap
  (repeat' first|refine vs ?_|(refine br ?_ ?_<;>intro _<;>try(exfalso;first|omega|contradiction))|((with_reducible refine g_idx ?_);((first|refine ix ?_|refine ixi ?_|(refine ixg ?_;intro _ _)|(refine ixgi ?_;intro _ _));first|rintro _ _ _ _ _ ⟨rfl,rfl⟩ _|rintro _ _ _ _ _ ⟨_,rfl,_⟩ _|rintro _ _ _ _ _ ⟨_,_,_,_,rfl,rfl,_,_⟩ _|intro _ _ _ _ _ _ _))|(refine sx ?_;intro _ _))
  exact pi rfl
theorem s_spec_Cap {h : AH} {a : Int} : RCalls Try.prog n_spec_Cap [.int .i64 a] h (.int .i64 (cap a)) := by
  refine reader (c_spec_Cap _) (by simp only [old]) ?_
  unfold p_spec_Cap
  (repeat' first|refine vs ?_|(refine br ?_ ?_<;>intro _<;>try(exfalso;first|omega|contradiction))|((with_reducible refine g_idx ?_);((first|refine ix ?_|refine ixi ?_|(refine ixg ?_;intro _ _)|(refine ixgi ?_;intro _ _));first|rintro _ _ _ _ _ ⟨rfl,rfl⟩ _|rintro _ _ _ _ _ ⟨_,rfl,_⟩ _|rintro _ _ _ _ _ ⟨_,_,_,_,rfl,rfl,_,_⟩ _|intro _ _ _ _ _ _ _))|(refine sx ?_;intro _ _))
  all_goals (refine pi ?_; unfold cap; omega)
def addc (a b : Int) : Int := cap (cap a + cap b)
theorem s_impl_Add {h : AH} {a b : Int} : RCalls Try.prog n_impl_Add [.int .i64 a, .int .i64 b] h (.int .i64 (addc a b)) := by
  refine reader (c_impl_Add _ _) (by simp only [old]) ?_
  unfold p_impl_Add
  have := cap_b a; have := cap_b b
  (repeat' first|refine vs ?_|(refine br ?_ ?_<;>intro _<;>try(exfalso;first|omega|contradiction))|((with_reducible refine g_callf n_impl_Cap ?_);refine aw_rcall s_impl_Cap ?_)|((with_reducible refine g_idx ?_);((first|refine ix ?_|refine ixi ?_|(refine ixg ?_;intro _ _)|(refine ixgi ?_;intro _ _));first|rintro _ _ _ _ _ ⟨rfl,rfl⟩ _|rintro _ _ _ _ _ ⟨_,rfl,_⟩ _|rintro _ _ _ _ _ ⟨_,_,_,_,rfl,rfl,_,_⟩ _|intro _ _ _ _ _ _ _))|(refine sx ?_;intro _ _))
  exact pi rfl
theorem s_spec_Add {h : AH} {a b : Int} : RCalls Try.prog n_spec_Add [.int .i64 a, .int .i64 b] h (.int .i64 (addc a b)) := by
  refine reader (c_spec_Add _ _) (by simp only [old]) ?_
  unfold p_spec_Add
  have := cap_b a; have := cap_b b
  (repeat' first|refine vs ?_|(refine br ?_ ?_<;>intro _<;>try(exfalso;first|omega|contradiction))|((with_reducible refine g_callf n_spec_Cap ?_);refine aw_rcall s_spec_Cap ?_)|((with_reducible refine g_idx ?_);((first|refine ix ?_|refine ixi ?_|(refine ixg ?_;intro _ _)|(refine ixgi ?_;intro _ _));first|rintro _ _ _ _ _ ⟨rfl,rfl⟩ _|rintro _ _ _ _ _ ⟨_,rfl,_⟩ _|rintro _ _ _ _ _ ⟨_,_,_,_,rfl,rfl,_,_⟩ _|intro _ _ _ _ _ _ _))|(refine sx ?_;intro _ _))
  exact pi rfl
end Go.Proofs.Ytjjaefhldldpkaa
