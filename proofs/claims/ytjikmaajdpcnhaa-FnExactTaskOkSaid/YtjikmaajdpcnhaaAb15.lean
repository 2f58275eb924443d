/- Regions that draw their order: the parts. -/
import Derived.Test.YtjikmaajdpcnhaaAb14
set_option linter.unusedSimpArgs false
set_option linter.unusedVariables false
namespace Go.Ab
open Go.RowKit

variable {B : Nat} {w0 w w' : World} {m m' : BM} {h : AH} {P : Program}

/-- What may run early. -/
def AOp.fl : AOp → Bool
  | .st .. | .call .. | .callv .. | .app .. | .clr .. | .mksl .. | .cpy .. | .capo .. => false
  | _ => true
def AOp.news : AOp → Bool
  | .alloc _ | .box _ | .bslice .. => true
  | _ => false
def AOp.deps : AOp → Bool
  | .alloc _ | .box _ | .bslice .. | .ld1 _ | .ldn .. | .slc .. | .bstr _ => true
  | _ => false
def blkOf : AOp → AV → Option Nat
  | .alloc _, .ptr b _ => some b
  | .box _, .ptr b _ => some b
  | .bslice .., .sl b _ _ => some b
  | _, _ => none

theorem fl_of {ρ : Operand → AV} {o : Oper} (hf : floats o = true) : (trOp P ρ o.op).fl = true := by
  unfold floats at hf
  cases hop : o.op <;> rw [hop] at hf <;> simp only [Bool.false_eq_true] at hf <;> simp only [trOp]
  case call c =>
    simp only [trCall]
    split at hf <;> (rename_i hc; first | (rw [hc]; simp only) | simp at hf)
    all_goals (repeat' split)
    all_goals first | rfl | simp_all
  case makeFunc fn first caps => cases fn <;> simp only [trOp] <;> (repeat' split) <;> rfl
  case slice t x lo hi mx => cases mx <;> simp only [trOp] <;> (repeat' split) <;> rfl
  all_goals (repeat' split)
  all_goals rfl

theorem deps_of {ρ : Operand → AV} {o : Oper} (hf : hangs o = false) (hfl : floats o = true) : (trOp P ρ o.op).deps = false := by
  unfold floats at hfl
  unfold hangs at hf
  cases hop : o.op <;> rw [hop] at hf hfl <;> simp only [Bool.false_eq_true, Bool.true_eq_false] at hf hfl <;> simp only [trOp]
  case call c =>
    simp only [trCall]
    split at hfl <;> (rename_i hc; first | (rw [hc]; simp only) | simp at hfl)
    all_goals (repeat' split)
    all_goals first | rfl | simp_all
  case makeFunc fn first caps => cases fn <;> simp only [trOp] <;> (repeat' split) <;> rfl
  all_goals (repeat' split)
  all_goals rfl

/-- What runs early tells what will still hold. -/
theorem go_still {ao : AOp} (hf : ao.fl = true) {K : AV → AH → Prop} (g : ao.go P h K) :
    ∃ v h', K v h' ∧ ao.still P v h' ∧ ((ao.news = false ∧ h' = h) ∨ (blkOf ao v = some h.n ∧ ∃ k : Blk, k.st = 0 ∧ h' = h.push k)) := by
  cases ao <;> simp only [AOp.fl, Bool.false_eq_true] at hf <;> simp only [AOp.go, AOp.still, AOp.news, blkOf] at g ⊢
  case alloc cells => exact ⟨_, _, g, by simp [AH.push], .inr ⟨rfl, _, rfl, rfl⟩⟩
  case box v =>
    split at g
    · rename_i cs hc
      refine ⟨_, _, g, ?_, .inr ⟨rfl, _, rfl, rfl⟩⟩
      simp [hc, AH.push]
    · exact g.elim
  case bslice es n zero parts =>
    split at g
    · rename_i cs hc
      refine ⟨_, _, g.2.2, ?_, .inr ⟨rfl, _, rfl, rfl⟩⟩
      simp only [hc]
      exact ⟨trivial, g.1, g.2.1, by simp [AH.push]⟩
    · exact g.elim
  case sidx x i =>
    split at g
    · obtain ⟨h0, c, hc, k⟩ := g; exact ⟨_, _, k, ⟨h0, c, hc, rfl, by simp⟩, .inl (by simp)⟩
    · exact g.elim
  case slc es x lo hi mx =>
    split at g
    · rename_i b off ln
      split at g
      · rename_i l hh h1 h2
        obtain ⟨q1, q2, q3, q4, q5, q6, q7, q8⟩ := g
        split at q8
        · exact ⟨_, _, q8, by simp only [h1, h2]; exact ⟨q1, q2, q3, q4, q5, q6, q7, by simp⟩, .inl (by simp)⟩
        · exact q8.elim
      · exact g.elim
    · split at g
      · rename_i l hh h1 h2
        exact ⟨_, _, g.2.2.2, by simp only [h1, h2]; exact ⟨g.1, g.2.1, g.2.2.1, by simp⟩, .inl (by simp)⟩
      · exact g.elim
    · exact g.elim
  all_goals (repeat' split at g)
  all_goals first
    | exact g.elim
    | exact ⟨_, _, g, by simp_all, .inl (by simp)⟩
    | exact ⟨_, _, g.2, by simp_all, .inl (by simp)⟩
    | exact ⟨_, _, g.2.2, by simp_all, .inl (by simp)⟩
    | exact ⟨_, _, g.2.2.2, by simp_all, .inl (by simp)⟩
    | exact ⟨_, _, g.2.2.2.2.2, by simp_all, .inl (by simp)⟩
    | exact ⟨_, _, g.2.2.2.2.2.2, by simp_all, .inl (by simp)⟩

/-- What hangs on no block still holds in every heap. -/
theorem still_pure {ao : AOp} (hf : ao.fl = true) (hd : ao.deps = false) {v : AV} {h h' : AH} (s : ao.still P v h) : ao.still P v h' := by
  cases ao <;> simp only [AOp.fl, Bool.false_eq_true] at hf <;> simp only [AOp.deps, Bool.true_eq_false] at hd <;> simp only [AOp.still, AOp.go] at s ⊢
  all_goals (repeat' split at s)
  all_goals first
    | exact s.elim
    | (simp_all; done)
    | skip

theorem still_push {ao : AOp} (hf : ao.fl = true) {v : AV} (k : Blk) (hfr : ∀ b, h.n ≤ b → (h.get b).st = 2) (hb : ∀ b, blkOf ao v = some b → b < h.n) (s : ao.still P v h) : ao.still P v (h.push k) := by
  have hget : ∀ b, live h b → (h.push k).get b = h.get b := by
    intro b hb
    have : b ≠ h.n := fun e => hb (hfr b (by omega))
    simp [AH.push, this]
  have hget' : ∀ b, b < h.n → (h.push k).get b = h.get b := by
    intro b hb
    have : b ≠ h.n := by omega
    simp [AH.push, this]
  by_cases hd : ao.deps = true
  · cases ao <;> simp only [AOp.fl, Bool.false_eq_true] at hf <;> simp only [AOp.deps, Bool.false_eq_true] at hd <;> simp only [AOp.still, AOp.go] at s ⊢
    case alloc cells =>
      split at s
      · rename_i b; rw [hget' b (hb b rfl)]; exact s
      · exact s.elim
    case box x =>
      split at s
      · rename_i b cs hc; rw [hget' b (hb b rfl)]; exact s
      · exact s.elim
    case bslice es n zero parts =>
      split at s
      · rename_i b q cs hc; rw [hget' b (hb b rfl)]; exact s
      · exact s.elim
    case ld1 a =>
      split at s
      · rename_i b o
        split at s
        · rename_i x hx
          have e := hget b s.1
          simp only [e, hx, live]
          exact ⟨s.1, s.2.1, trivial⟩
        · exact s.elim
      · exact s.elim
    case ldn n a =>
      split at s
      · rename_i b o
        have e := hget b s.1
        simp only [e, live]
        exact ⟨s.1, s.2.1, s.2.2.1, trivial⟩
      · exact s.elim
    case slc es x lo hi mx =>
      split at s
      · rename_i b off ln
        split at s
        · rename_i l hh h1 h2
          obtain ⟨q1, q2, q3, q4, q5, q6, q7, q8⟩ := s
          have e := hget b (by unfold live; unfold mine at q3; omega)
          simp only [h1, h2, e, mine]
          refine ⟨q1, q2, q3, q4, q5, q6, q7, ?_⟩
          split at q8
          · exact ⟨q8.1, trivial⟩
          · exact q8.elim
        · exact s.elim
      · split at s
        · rename_i l hh h1 h2
          exact s
        · exact s.elim
      · exact s.elim
    case bstr x =>
      have e1 : bstrv (h.push k) x = bstrv h x ∧ (blive h x → blive (h.push k) x) := by
        split at s
        · rename_i st hst
          cases x <;> first | exact ⟨rfl, fun _ => trivial⟩ | skip
          rename_i b off ln
          have e := hget b s.1
          exact ⟨by simp only [bstrv, e], fun hl => by simp only [blive, live, e] at hl ⊢; exact hl⟩
        · exact s.elim
      rw [e1.1]
      split at s
      · exact ⟨e1.2 s.1, s.2.1, trivial⟩
      · exact s.elim
  · exact still_pure hf (by simpa using hd) s

end Go.Ab
