/- The program's CodeName returns, for every int, the text that the reference's returns. No conditions. -/
import Derived.Test.YtnjlcedbnkelaaaPFnExactCodeNamex1
namespace Go.Proofs.Ytnjlcedbnkelaaa.Pure
open Go.RowKit Go.Proofs.Ytnjlcedbnkelaaa.PFnExactCodeName Go.Proofs.YtnjlcedbnkelaaaW.PrintWords Go.Proofs.YtnjlcedbnkelaaaW.PrintLast

theorem FnExactCodeName : laws_FnExactCodeName.Pure := by
  intro a0 _
  by_cases h1 : a0 ≥ 1
  · by_cases h5 : a0 ≤ 5
    · have h : a0 = 1 ∨ a0 = 2 ∨ a0 = 3 ∨ a0 = 4 ∨ a0 = 5 := by omega
      rcases h with rfl | rfl | rfl | rfl | rfl <;> simp [laws_FnExactCodeName.f, spec_CodeName.f, impl_CodeName.f, spec_l1In.f, impl_within.f, wrap64, rdOf]
    · simp [laws_FnExactCodeName.f, spec_CodeName.f, impl_CodeName.f, spec_l1In.f, impl_within.f, h1, h5]
  · simp [laws_FnExactCodeName.f, spec_CodeName.f, impl_CodeName.f, spec_l1In.f, impl_within.f, h1]

end Go.Proofs.Ytnjlcedbnkelaaa.Pure
