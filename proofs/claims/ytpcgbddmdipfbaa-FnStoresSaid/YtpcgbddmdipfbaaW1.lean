/- Numbers, names and plain strings. -/
import Derived.Test.YtpcgbddmdipfbaaNm
import Derived.Test.YtpcgbddmdipfbaaK4
set_option linter.unusedSimpArgs false
set_option linter.unusedVariables false
namespace Go.Proofs.Ytpcgbddmdipfbaa
open Go Go.Ab
section
/- impl.within -/
def p_impl_within (x0 x1 x2 : AV) : Prog := .op (.bin 0 .geq x0 x1) fun v1 => .gop v1 true (.mv x0) fun v2 => .gop v1 true (.mv x2) fun v3 => .gop v1 true (.bin 0 .leq v2 v3) fun v4 => .op (.pick v1 v4 (AV.bool false)) fun v5 => .fin [.val v5]
theorem c_impl_within (x0 x1 x2 : AV) : CC Try.prog n_impl_within [x0, x1, x2] (p_impl_within x0 x1 x2) := cc Try.func152 [] (fun _ => []) (by kernel_rfl)
/- spec.l1In -/
def p_spec_l1In (x0 x1 x2 : AV) : Prog := .op (.bin 0 .geq x0 x1) fun v1 => .gop v1 true (.mv x0) fun v2 => .gop v1 true (.mv x2) fun v3 => .gop v1 true (.bin 0 .leq v2 v3) fun v4 => .op (.pick v1 v4 (AV.bool false)) fun v5 => .fin [.val v5]
theorem c_spec_l1In (x0 x1 x2 : AV) : CC Try.prog n_spec_l1In [x0, x1, x2] (p_spec_l1In x0 x1 x2) := cc Try.func153 [] (fun _ => []) (by kernel_rfl)
end
def inB (a lo hi : Int) : Bool := decide (lo ≤ a ∧ a ≤ hi)
theorem inB_t {a lo hi : Int} (h : inB a lo hi = true) : lo ≤ a ∧ a ≤ hi := by simpa [inB] using h
theorem inB_f {a lo hi : Int} (h : inB a lo hi = false) : ¬ (lo ≤ a ∧ a ≤ hi) := by simpa [inB] using h
theorem s_spec_l1In {h : AH} {a lo hi : Int} : RCalls Try.prog n_spec_l1In [.int .i64 a, .int .i64 lo, .int .i64 hi] h (.bool (inB a lo hi)) := by
  refine reader (c_spec_l1In _ _ _) (by simp only [old]) ?_
  unfold p_spec_l1In
  (repeat' first|refine vs ?_|(refine br ?_ ?_<;>intro _<;>try(exfalso;first|omega|contradiction))|((with_reducible refine g_idx ?_);((first|refine ix ?_|refine ixi ?_|(refine ixg ?_;intro _ _)|(refine ixgi ?_;intro _ _));first|rintro _ _ _ _ _ ⟨rfl,rfl⟩ _|rintro _ _ _ _ _ ⟨_,rfl,_⟩ _|rintro _ _ _ _ _ ⟨_,_,_,_,rfl,rfl,_,_⟩ _|intro _ _ _ _ _ _ _))|(refine sx ?_;intro _ _)|((with_reducible refine g_awp ?_);simp only [g0,g1,g2]))
  all_goals (refine pb ?_; simp [inB]; omega)
theorem s_impl_within {h : AH} {a lo hi : Int} : RCalls Try.prog n_impl_within [.int .i64 a, .int .i64 lo, .int .i64 hi] h (.bool (inB a lo hi)) := by
  refine reader (c_impl_within _ _ _) (by simp only [old]) ?_
  unfold p_impl_within
  (repeat' first|refine vs ?_|(refine br ?_ ?_<;>intro _<;>try(exfalso;first|omega|contradiction))|((with_reducible refine g_idx ?_);((first|refine ix ?_|refine ixi ?_|(refine ixg ?_;intro _ _)|(refine ixgi ?_;intro _ _));first|rintro _ _ _ _ _ ⟨rfl,rfl⟩ _|rintro _ _ _ _ _ ⟨_,rfl,_⟩ _|rintro _ _ _ _ _ ⟨_,_,_,_,rfl,rfl,_,_⟩ _|intro _ _ _ _ _ _ _))|(refine sx ?_;intro _ _)|((with_reducible refine g_awp ?_);simp only [g0,g1,g2]))
  all_goals (refine pb ?_; simp [inB]; omega)

def cap (n : Int) : Int := min (max n 0) 2147483647
theorem cap_b (n : Int) : 0 ≤ cap n ∧ cap n ≤ 2147483647 := by unfold cap; omega
def addc (a b : Int) : Int := cap (cap a + cap b)
end Go.Proofs.Ytpcgbddmdipfbaa
