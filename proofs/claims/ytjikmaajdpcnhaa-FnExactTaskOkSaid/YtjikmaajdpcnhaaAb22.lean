/- The values of the program. -/
import Derived.Test.YtjikmaajdpcnhaaAb21
set_option linter.unusedSimpArgs false
set_option linter.unusedVariables false
namespace Go.Ab
open Go.RowKit

def rng (x : Int) : Prop := -9223372036854775808 ≤ x ∧ x ≤ 9223372036854775807
instance : Cel Int where
  w := 1
  ok := rng
  rep := fun h x cs F => cs = [.int .i64 x] ∧ F = []
  pos := by decide
  len := by rintro h x cs F ⟨rfl, rfl⟩; rfl
  lt := by rintro h x cs F ⟨rfl, rfl⟩; simp
  keep := by rintro h h' x cs F r _; exact r

instance : Cel Bool where
  w := 1
  ok := fun _ => True
  rep := fun h x cs F => cs = [.bool x] ∧ F = []
  pos := by decide
  len := by rintro h x cs F ⟨rfl, rfl⟩; rfl
  lt := by rintro h x cs F ⟨rfl, rfl⟩; simp
  keep := by rintro h h' x cs F r _; exact r

instance : Cel ByteArray where
  w := 1
  ok := fun s => s.size ≤ maxLen
  rep := fun h x cs F => cs = [.str x] ∧ F = []
  pos := by decide
  len := by rintro h x cs F ⟨rfl, rfl⟩; rfl
  lt := by rintro h x cs F ⟨rfl, rfl⟩; simp
  keep := by rintro h h' x cs F r _; exact r

instance {α : Type} [Cel α] : Cel (List α) where
  w := 1
  ok := fun xs => ∀ x ∈ xs, Cel.ok x
  rep := fun h x cs F => ∃ v, cs = [v] ∧ SlRep h v x F
  pos := by decide
  len := by rintro h x cs F ⟨v, rfl, _⟩; rfl
  lt := by rintro h x cs F ⟨v, rfl, r⟩; exact r.lt
  keep := by rintro h h' x cs F ⟨v, rfl, r⟩ k; exact ⟨v, rfl, r.keep k⟩

structure Verdict where
  trace : Int
  stamp : Int
  keep : Bool
def Verdict.cs (x : Verdict) : List AV := [.int .i64 x.trace, .int .i64 x.stamp, .bool x.keep]
instance : Cel Verdict where
  w := 3
  ok := fun x => rng x.trace ∧ rng x.stamp
  rep := fun h x cs F => cs = x.cs ∧ F = []
  pos := by decide
  len := by rintro h x cs F ⟨rfl, rfl⟩; rfl
  lt := by rintro h x cs F ⟨rfl, rfl⟩; simp
  keep := by rintro h h' x cs F r _; exact r

end Go.Ab
