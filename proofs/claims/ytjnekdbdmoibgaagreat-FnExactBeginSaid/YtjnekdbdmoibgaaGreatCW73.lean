import Derived.Test.YtjnekdbdmoibgaaGreatCW72
/- The sizes of worlds that were begun in. -/
set_option linter.unusedSimpArgs false
set_option linter.unusedVariables false
namespace Go.Proofs.YtjnekdbdmoibgaaGreat
open Go Go.Ab
theorem szs_set0 {α : Type} [Sz α] {y : α} {m : Nat} (hy : Sz.sz y ≤ m) : ∀ (xs : List α) (i : Nat), szs (xs.set i y) ≤ szs xs + m
  | [], i => by simp [szs]
  | a :: xs, 0 => by simp only [List.set_cons_zero, szs]; omega
  | a :: xs, i + 1 => by have := szs_set0 hy xs i; simp only [List.set_cons_succ, szs]; omega
theorem beginW_sz (x : Wld) (k : Nat) : Sz.sz (beginW x k) ≤ Sz.sz x + 8 := by
  cases hd : x.due with
  | nil => unfold beginW; rw [hd]; exact Nat.le_add_right (Sz.sz x) 8
  | cons t rest =>
    rw [beginW_c hd, wsz, wsz]
    have h1 : szs (x.tasks.set k ⟨2, 0, noSpan, t.trace, t.id, [], x.deeds.length⟩) ≤ szs x.tasks + 0 := szs_set0 (Nat.le_refl _) _ _
    have h2 : szs x.due = Sz.sz t + szs rest := by rw [hd]; rfl
    have h3 : Sz.sz (⟨2, k, noSpan, t.trace, t.id, 0, false, false, 0, 0, 0, x.w.now, x.time, -1, -1⟩ : Deed) = 0 := rfl
    have h4 : szs (x.deeds ++ [⟨2, k, noSpan, t.trace, t.id, 0, false, false, 0, 0, 0, x.w.now, x.time, -1, -1⟩]) = szs x.deeds + 0 := by rw [szs_app]; rfl
    have h5 : x.due.length = rest.length + 1 := by rw [hd]; rfl
    simp only [List.length_set, List.length_append, List.length_singleton]
    omega
theorem beginP_sz (x : Wld) (k : Int) : Sz.sz (beginP x k).1 ≤ Sz.sz x + 8 := by
  by_cases h : canBegin x k
  · rw [beginP_y h]; exact beginW_sz x _
  · rw [beginP_n h]; exact Nat.le_add_right _ _
end Go.Proofs.YtjnekdbdmoibgaaGreat
