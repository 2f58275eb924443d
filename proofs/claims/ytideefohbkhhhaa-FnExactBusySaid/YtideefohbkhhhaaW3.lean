
/- Lists of attributes; things. -/
import Derived.Test.YtideefohbkhhhaaW2
set_option linter.unusedSimpArgs false
set_option linter.unusedVariables false
namespace Go.Proofs.Ytideefohbkhhhaa
open Go Go.Ab
section
end
def kge (a b : ByteArray) : Bool := !(Op.bytesLess a.toList b.toList)
def attrsAt (l : List Attr) (i : Nat) (a : Attr) : Prop := attrOk a ∧ ∀ b, 0 < i → l[((i : Int) - 1).toNat]? = some b → kge b.key a.key = false
def attrsOk (l : List Attr) : Prop := (∀ i a, l[i]? = some a → attrsAt l i a) ∧ (l.length : Int) ≤ 4

/-! ### Sizes -/
def sumI {α : Type} (f : α → Int) : List α → Int
  | [] => 0
  | x :: l => f x + sumI f l
theorem sumI_app {α : Type} (f : α → Int) : ∀ l r : List α, sumI f (l ++ r) = sumI f l + sumI f r
  | [], r => by simp [sumI]
  | x :: l, r => by simp only [List.cons_append, sumI, sumI_app f l]; omega
theorem sumI_take {α : Type} (f : α → Int) {xs : List α} {i : Nat} {x : α} (ht : xs.take (i + 1) = xs.take i ++ [x]) : sumI f (xs.take (i + 1)) = sumI f (xs.take i) + f x := by rw [ht, sumI_app]; simp [sumI]
theorem sumI_b {α : Type} [Sz α] {f : α → Int} {a b : Int} (hb : ∀ x, 0 ≤ f x ∧ f x ≤ a + b * (Sz.sz x : Nat)) : ∀ l : List α, 0 ≤ sumI f l ∧ sumI f l ≤ a * l.length + b * (szs l : Nat)
  | [] => by simp [sumI, szs]
  | x :: l => by
    have h1 := hb x; have h2 := sumI_b hb l
    simp only [sumI, szs, List.length_cons]
    have e1 : a * ((l.length + 1 : Nat) : Int) = a * l.length + a := by rw [Int.natCast_add, Int.mul_add]; simp
    have e2 : b * ((Sz.sz x + szs l : Nat) : Int) = b * (Sz.sz x : Nat) + b * (szs l : Nat) := by rw [Int.natCast_add, Int.mul_add]
    omega
theorem attrSize_b (a : Attr) : 0 ≤ attrSize a ∧ attrSize a ≤ 4 + 1 * (Sz.sz a : Nat) := by
  have : Sz.sz a = a.key.size + a.text.size := rfl
  unfold attrSize; split <;> omega
def spanSize (s : Span) : Int := 12 + sumI attrSize s.attrs
theorem spanSize_b (s : Span) : 0 ≤ spanSize s ∧ spanSize s ≤ 12 + 4 * (Sz.sz s : Nat) := by
  have : Sz.sz s = s.attrs.length + szs s.attrs := rfl
  have := sumI_b attrSize_b s.attrs
  unfold spanSize; omega
def spanOk (s : Span) : Prop := (1 ≤ s.trace ∧ s.trace ≤ 999) ∧ (1 ≤ s.id ∧ s.id ≤ 999) ∧ (0 ≤ s.start ∧ s.start ≤ s.fin ∧ s.fin ≤ 99999) ∧ attrsOk s.attrs ∧ spanSize s ≤ 96
end Go.Proofs.Ytideefohbkhhhaa
