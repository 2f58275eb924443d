
/- Things that are the same. -/
import Derived.Test.YtideefohbkhhhaaW3
import Derived.Test.YtideefohbkhhhaaK4
set_option linter.unusedSimpArgs false
set_option linter.unusedVariables false
namespace Go.Proofs.Ytideefohbkhhhaa
open Go Go.Ab
section
end
theorem aeqs_Attr (x y : Attr) : aeqs [1, 2, 0, 1] x.cs y.cs = some (bp (x = y)) := by
  have : aeqs [1, 2, 0, 1] x.cs y.cs = some (decide (x.key = y.key) && ((x.num == y.num) && (decide (x.n = y.n) && (decide (x.text = y.text) && true)))) := rfl
  rw [this]
  congr 1
  refine bp_eq ?_
  cases x; cases y
  simp [Attr.mk.injEq]
section
variable {P : Program} {h : AH} {Q : Nat → List AV → AH → Prop} {k : AV → Prog}
theorem w_eqsA {x y : Attr} (h1 : ¬ x = y → (k (.bool true)).awp P h Q) (h2 : x = y → (k (.bool false)).awp P h Q) : (Prog.op (.eqs [1, 2, 0, 1] true (.agg x.cs) (.agg y.cs)) k).awp P h Q := by
  simp only [Prog.awp, AOp.go, aeqs_Attr, if_true]
  by_cases e : x = y
  · rw [bp_t e]; exact h2 e
  · rw [bp_f e]; exact h1 e
end

end Go.Proofs.Ytideefohbkhhhaa
