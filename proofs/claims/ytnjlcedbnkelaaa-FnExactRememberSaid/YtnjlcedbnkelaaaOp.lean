/- How what comes in is opened. -/
import Derived.Test.YtnjlcedbnkelaaaAb26
import Derived.Test.YtnjlcedbnkelaaaAb27
import Derived.Test.YtnjlcedbnkelaaaProg
import Derived.KernelRfl
set_option linter.unusedVariables false
set_option maxRecDepth 100000
namespace Go.Proofs.Ytnjlcedbnkelaaa
open Go Go.Ab
theorem op_42 (n : Nat) : OpensF Verdict Try.prog 42 n := opens_struct Try.underlying42 (by kernel_rfl) (fun n _ => opensL_cons (k := 1) rfl (by kernel_rfl) (opens_int Try.underlying3) (opensL_cons (k := 1) rfl (by kernel_rfl) (opens_int Try.underlying3) (opensL_cons (k := 1) rfl (by kernel_rfl) (opens_bool Try.underlying4) (opensL_nil)))) (by
  rintro h avs F ⟨x0, c0, _, F0, _, rfl, rfl, ⟨rfl, rfl⟩, k0, x1, c1, _, F1, _, rfl, rfl, ⟨rfl, rfl⟩, k1, x2, c2, _, F2, _, rfl, rfl, ⟨rfl, rfl⟩, k2, rfl, rfl⟩
  exact mk_Verdict k0 k1 k2)
theorem op_24 (n : Nat) : OpensF (List Verdict) Try.prog 24 n := opens_slice Try.underlying24 (by kernel_rfl) (by decide +kernel) fun n _ => op_42 _
end Go.Proofs.Ytnjlcedbnkelaaa
