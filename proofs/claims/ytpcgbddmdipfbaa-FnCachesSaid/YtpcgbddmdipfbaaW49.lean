
/- What is remembered: plain laws. -/
import Derived.Test.YtpcgbddmdipfbaaW47
set_option linter.unusedSimpArgs false
set_option linter.unusedVariables false
set_option maxHeartbeats 2000000
namespace Go.Proofs.Ytpcgbddmdipfbaa
open Go Go.Ab

def rest0 (xs : List Verdict) (v : Verdict) : List Verdict := xs.filter fun x => !isT v.trace x
theorem rem_most {xs : List Verdict} {v : Verdict} {m : Int} (hm : ¬ m < 1) : (rem xs v m).1 = (rest0 xs v).drop ((rest0 xs v).length + 1 - m.toNat) ++ [v] := by
  unfold rem
  rw [if_neg hm]
  have hl : (keepers xs v).length = (rest0 xs v).length + 1 := by simp [keepers, rest0]
  rw [hl]
  show ((rest0 xs v) ++ [v]).drop _ = _
  rw [List.drop_append_of_le_length (by omega)]
theorem rest0_in {xs : List Verdict} {v x : Verdict} (hx : x ∈ rest0 xs v) : x ∈ xs ∧ x.trace ≠ v.trace := by
  have := List.mem_filter.1 hx
  simpa [isT] using this
theorem rest0_len (xs : List Verdict) (v : Verdict) : (rest0 xs v).length ≤ xs.length := List.length_filter_le _ _
theorem vOf_end {ys : List Verdict} {v : Verdict} (h : ∀ x ∈ ys, x.trace ≠ v.trace) : vOf (ys ++ [v]) v.trace = (v, true) := by
  unfold vOf
  have : (ys ++ [v]).find? (isT v.trace) = some v := by
    rw [List.find?_append]
    have : ys.find? (isT v.trace) = none := List.find?_eq_none.2 fun x hx => by simpa [isT] using h x hx
    rw [this]; simp [isT]
  rw [this]
def vOk (v : Verdict) : Prop := (1 ≤ v.trace ∧ v.trace ≤ 999) ∧ 1 ≤ v.stamp
theorem cOk_iff {xs : List Verdict} {k : Int} : cOk xs k ↔ (∀ x ∈ xs, vOk x) ∧ xs.Pairwise (fun a b => a.trace ≠ b.trace) ∧ (xs.length : Int) ≤ k := by
  unfold cOk
  constructor
  · rintro ⟨h1, h2⟩
    refine ⟨fun x hx => ?_, ?_, h2⟩
    · obtain ⟨i, hi⟩ := List.mem_iff_getElem?.1 hx
      exact ⟨(h1 i x hi).1, (h1 i x hi).2.1⟩
    · rw [List.pairwise_iff_getElem]
      intro i j hi hj hij
      exact (h1 j xs[j] (List.getElem?_eq_getElem hj)).2.2 i xs[i] hij (List.getElem?_eq_getElem hi)
  · rintro ⟨h1, h2, h3⟩
    refine ⟨fun i v hv => ?_, h3⟩
    have := h1 v (List.mem_of_getElem? hv)
    refine ⟨this.1, this.2, fun j u hj hu => ?_⟩
    rw [List.pairwise_iff_getElem] at h2
    obtain ⟨hi', rfl⟩ := List.getElem?_eq_some_iff.1 hv
    obtain ⟨hj', rfl⟩ := List.getElem?_eq_some_iff.1 hu
    exact h2 j i hj' hi' hj
theorem cOk_end {xs ys : List Verdict} {v : Verdict} {m : Int} (hx : cOk xs m) (hs : ys.Sublist (rest0 xs v)) (hl : ((ys ++ [v]).length : Int) ≤ m) : cOk (ys ++ [v]) m ↔ cOk [v] m := by
  rw [cOk_iff] at hx
  obtain ⟨h1, h2, h3⟩ := hx
  have hin : ∀ x ∈ ys, x ∈ xs ∧ x.trace ≠ v.trace := fun x hxy => rest0_in (hs.subset hxy)
  have hp : ys.Pairwise (fun a b => a.trace ≠ b.trace) := (h2.sublist (hs.trans List.filter_sublist))
  rw [cOk_iff, cOk_iff]
  constructor
  · rintro ⟨g1, -, -⟩
    refine ⟨fun x hx => g1 x (by simp [List.mem_singleton.1 hx]), List.pairwise_singleton _ _, ?_⟩
    simp only [List.length_append, List.length_singleton] at hl ⊢; omega
  · rintro ⟨g1, -, -⟩
    refine ⟨fun x hx => ?_, ?_, hl⟩
    · rcases List.mem_append.1 hx with q | q
      · exact h1 x (hin x q).1
      · exact g1 x q
    · refine List.pairwise_append.2 ⟨hp, List.pairwise_singleton _ _, fun a ha b hb => ?_⟩
      rw [List.mem_singleton.1 hb]; exact (hin a ha).2
theorem forgets_end {xs : List Verdict} {v : Verdict} {d : Nat} : (forgets xs ((rest0 xs v).drop d ++ [v])).length ≤ d := by
  unfold forgets
  rw [List.length_map]
  have key : ∀ x, isT v.trace x = true → fgt ((rest0 xs v).drop d ++ [v]) x = false := by
    intro x h
    unfold fgt
    rw [List.find?_append]
    have hx : x.trace = v.trace := by simpa [isT] using h
    rw [hx]
    cases (List.drop d (rest0 xs v)).find? (isT v.trace) <;> simp [isT]
  have gen : ∀ p : Verdict → Bool, (∀ x, isT v.trace x = true → p x = false) → xs.filter p = (rest0 xs v).filter p := by
    intro p hp
    unfold rest0
    rw [List.filter_filter]
    refine List.filter_congr fun x _ => ?_
    by_cases h : isT v.trace x = true
    · rw [hp x h]; rfl
    · simp [h]
  have e := gen _ key
  rw [e]
  have e2 : (rest0 xs v) = (rest0 xs v).take d ++ (rest0 xs v).drop d := (List.take_append_drop _ _).symm
  have e3 : ((rest0 xs v).drop d).filter (fgt ((rest0 xs v).drop d ++ [v])) = [] := by
    rw [List.filter_eq_nil_iff]
    intro x hx
    unfold fgt
    rw [List.find?_append]
    have : ((rest0 xs v).drop d).find? (isT x.trace) ≠ none := by
      intro h
      have := List.find?_eq_none.1 h x hx
      simp [isT] at this
    cases h : ((rest0 xs v).drop d).find? (isT x.trace) with
    | none => exact absurd h this
    | some y => simp
  have : (rest0 xs v).filter (fgt ((rest0 xs v).drop d ++ [v])) = ((rest0 xs v).take d).filter (fgt ((rest0 xs v).drop d ++ [v])) ++ ((rest0 xs v).drop d).filter (fgt ((rest0 xs v).drop d ++ [v])) := by
    rw [← List.filter_append, List.take_append_drop]
  rw [this, e3, List.append_nil]
  refine Nat.le_trans (List.length_filter_le _ _) ?_
  rw [List.length_take]; omega
end Go.Proofs.Ytpcgbddmdipfbaa
