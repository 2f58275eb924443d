import Derived.Test.YtekfdoknfcedpaaGreatCW91
/- The sizes of worlds that were offered to. -/
set_option linter.unusedSimpArgs false
set_option linter.unusedVariables false
namespace Go.Proofs.YtekfdoknfcedpaaGreat
open Go Go.Ab
theorem offerW_sz (x : Wld) (k : Nat) (s : Span) : Sz.sz (offerW x k s) ≤ Sz.sz x + (2 * Sz.sz s + 8) := by
  by_cases h : fits x.c s
  · rw [offerW_y h, wsz, wsz]
    have h1 : szs (x.tasks.set k ⟨1, 0, s, 0, 0, [], x.deeds.length⟩) ≤ szs x.tasks + Sz.sz s := szs_set0 (Nat.le_refl _) _ _
    have h3 : Sz.sz (⟨1, k, s, 0, 0, 0, false, false, 0, 0, 0, x.w.now, x.time, -1, -1⟩ : Deed) = Sz.sz s := rfl
    have h4 : szs (x.deeds ++ [⟨1, k, s, 0, 0, 0, false, false, 0, 0, 0, x.w.now, x.time, -1, -1⟩]) = szs x.deeds + (Sz.sz s + 0) := by rw [szs_app]; rfl
    simp only [List.length_set, List.length_append, List.length_singleton]
    omega
  · rw [offerW_n h, wsz, wsz]
    have h4 : szs (x.deeds ++ [⟨1, k, s, 0, 0, 5, false, false, 0, 0, 0, x.w.now, x.time, x.time, x.time⟩]) = szs x.deeds + (Sz.sz s + 0) := by rw [szs_app]; rfl
    simp only [List.length_append, List.length_singleton]
    omega
theorem offerP_sz (x : Wld) (k : Int) (s : Span) : Sz.sz (offerP x k s).1 ≤ Sz.sz x + (2 * Sz.sz s + 8) := by
  by_cases h : canOffer x k
  · rw [offerP_y h]; exact offerW_sz x _ s
  · rw [offerP_n h]; exact Nat.le_add_right _ _
end Go.Proofs.YtekfdoknfcedpaaGreat
