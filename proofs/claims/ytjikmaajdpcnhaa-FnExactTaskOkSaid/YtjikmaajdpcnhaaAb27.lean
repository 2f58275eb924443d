/- The values of the program, opened. -/
import Derived.Test.YtjikmaajdpcnhaaAb26
set_option linter.unusedVariables false
namespace Go.Ab
theorem mk_Verdict {h : AH} {a b : Int} {c : Bool} (ka : Cel.ok a) (kb : Cel.ok b) (kc : Cel.ok c) : ∃ x : Verdict, Cel.rep h x ([.int .i64 a] ++ ([.int .i64 b] ++ ([.bool c] ++ []))) ([] ++ ([] ++ ([] ++ []))) ∧ Cel.ok x :=
  ⟨⟨a, b, c⟩, ⟨rfl, rfl⟩, ka, kb⟩
end Go.Ab
