import Derived.Test.YtekfdoknfcedpaaGreatCW60
import Derived.Test.YtekfdoknfcedpaaGreatCW29
import Derived.Test.YtekfdoknfcedpaaGreatCW70
import Derived.Test.YtekfdoknfcedpaaGreatCKW2
import Derived.Test.YtekfdoknfcedpaaGreatCK5
/- The sizes of worlds that were begun in. -/
set_option linter.unusedSimpArgs false
set_option linter.unusedVariables false
namespace Go.Proofs.YtekfdoknfcedpaaGreat
open Go Go.Ab
theorem szs_set0 {α : Type} [Sz α] {y : α} {m : Nat} (hy : Sz.sz y ≤ m) : ∀ (xs : List α) (i : Nat), szs (xs.set i y) ≤ szs xs + m
  | [], i => by simp [szs]
  | a :: xs, 0 => by simp only [List.set_cons_zero, szs]; omega
  | a :: xs, i + 1 => by have := szs_set0 hy xs i; simp only [List.set_cons_succ, szs]; omega
end Go.Proofs.YtekfdoknfcedpaaGreat
