/- Wheels: what is in them, and which may be. -/
import Derived.Test.YtpcgbddmdipfbaaW1
import Derived.Test.YtpcgbddmdipfbaaK4
set_option linter.unusedSimpArgs false
set_option linter.unusedVariables false
set_option maxHeartbeats 2000000
namespace Go.Proofs.Ytpcgbddmdipfbaa
open Go Go.Ab
section
end
def timers (w : Wheel) : List Ab.Timer := (w.near.flatten ++ w.far.flatten) ++ w.rest
theorem flat_s {l : List (List Ab.Timer)} {i : Nat} {x : List Ab.Timer} (ht : l.take (i + 1) = l.take i ++ [x]) : (l.take (i + 1)).flatten = (l.take i).flatten ++ x := by rw [ht]; simp
theorem flat_b : ∀ l : List (List Ab.Timer), l.flatten.length ≤ szs l
  | [] => by simp
  | x :: l => by
    have := flat_b l
    have h2 : Sz.sz x = x.length + szs x := rfl
    simp only [List.flatten_cons, List.length_append, szs]; omega
/-! ### Where a timer belongs -/
def slotP (now kind slot : Int) (t : Ab.Timer) : Prop := 1 ≤ t.id ∧ (1 ≤ t.trace ∧ t.trace ≤ 999) ∧ now < t.at_ ∧ t.at_ ≤ 2147483647 ∧
  ((kind = 0 ∧ t.at_ / 8 = now / 8 ∧ t.at_ % 8 = slot) ∨ (kind = 1 ∧ 1 ≤ t.at_ / 8 - now / 8 ∧ t.at_ / 8 - now / 8 ≤ 7 ∧ t.at_ / 8 % 8 = slot) ∨ (kind = 2 ∧ 8 ≤ t.at_ / 8 - now / 8))
theorem tm8 {a : Int} (h : 0 ≤ a) : a.tmod 8 = a % 8 := Int.tmod_eq_emod_of_nonneg h
/-! ### Which wheels may be -/
def isTid (k : Int) (t : Ab.Timer) : Bool := decide (t.id = k)
/-- No two of a list are told by the same number. -/
def firstOf {α : Type} (f : α → Int) (l : List α) : Prop := ∀ (i : Nat) (x : α), l[i]? = some x → ∀ (j : Nat) (y : α), j < i → l[j]? = some y → f y ≠ f x
theorem idx_first {α : Type} {p : α → Bool} {l : List α} {i : Nat} {x : α} (hx : l[i]? = some x) (hp : p x = true) : idx p l = i ↔ ∀ (j : Nat) (y : α), j < i → l[j]? = some y → p y = false := by
  constructor
  · intro h j y hj hy
    rcases idx_cases p l with ⟨e, -⟩ | ⟨k, z, e, hz, hpz, hf⟩
    · omega
    · have : k = i := by omega
      subst this
      rw [List.filter_eq_self] at hf
      have hm : y ∈ l.take k := by
        rw [List.mem_iff_getElem?]
        exact ⟨j, by rw [List.getElem?_take, if_pos hj]; exact hy⟩
      simpa using hf y hm
  · exact fun h => idx_at hx hp h
def wheelOk (w : Wheel) : Prop := (0 ≤ w.now ∧ w.now ≤ 2147483647) ∧ (w.near.length : Int) = 8 ∧ (w.far.length : Int) = 8 ∧ (∀ t ∈ w.rest, slotP w.now 2 0 t) ∧
  (∀ (i : Nat) (a b : List Ab.Timer), w.near[i]? = some a → w.far[i]? = some b → (∀ t ∈ a, slotP w.now 0 i t) ∧ ∀ t ∈ b, slotP w.now 1 i t) ∧ firstOf (·.id) (timers w) ∧ ((timers w).length : Int) ≤ 16
theorem isTid_self (t : Ab.Timer) : isTid t.id t = true := by simp [isTid]
end Go.Proofs.Ytpcgbddmdipfbaa
