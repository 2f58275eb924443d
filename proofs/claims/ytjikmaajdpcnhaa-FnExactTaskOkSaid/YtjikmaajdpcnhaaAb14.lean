/- Regions that draw their order: what runs early is looked at again behind each operation that may change it. -/
import Derived.Test.YtjikmaajdpcnhaaAb12
set_option linter.unusedSimpArgs false
set_option linter.unusedVariables false
namespace Go.Ab
open Go.RowKit

variable {B : Nat} {w0 w w' : World} {m m' : BM} {h : AH} {P : Program}

theorem partsAt_congr {ρ ρ' : Operand → AV} (pl : Nat → Option (Nat × Nat)) : ∀ (l : List (Nat × Operand)), (∀ p ∈ l, ρ p.2 = ρ' p.2) → partsAt pl ρ l = partsAt pl ρ' l
  | [], _ => rfl
  | (i, x) :: l, hh => by
    simp only [partsAt]
    rw [partsAt_congr pl l fun p hp => hh p (List.mem_cons_of_mem _ hp), hh (i, x) (List.mem_cons_self ..)]

theorem trOp_congr {ρ ρ' : Operand → AV} (op : Op) (hh : ∀ x ∈ op.operands, ρ x = ρ' x) : trOp P ρ op = trOp P ρ' op := by
  cases op <;> simp only [Op.operands] at hh <;> simp only [trOp]
  case build t ps =>
    have e : ∀ pl, partsAt pl ρ ps.toList = partsAt pl ρ' ps.toList := fun pl => partsAt_congr pl ps.toList fun p hp => hh p.2 (by simp; exact ⟨p.1, by simpa using hp⟩)
    simp only [e]
  case buildSlice t n ps =>
    have e : ∀ pl, partsAt pl ρ ps.toList = partsAt pl ρ' ps.toList := fun pl => partsAt_congr pl ps.toList fun p hp => hh p.2 (by simp; exact ⟨p.1, by simpa using hp⟩)
    simp only [e]
  case call c =>
    obtain ⟨callee, args, argTypes⟩ := c
    have harg : ∀ x ∈ args.toList, ρ x = ρ' x := fun x hx => hh x (by
      simp only [Call.operands, Array.mem_append]
      exact .inr (Array.mem_toList_iff.1 hx))
    have e : args.toList.map ρ = args.toList.map ρ' := List.map_congr_left harg
    have e1 : ∀ x, args.toList = [x] → ρ x = ρ' x := fun x hx => harg x (by simp [hx])
    have e2 : ∀ x y, args.toList = [x, y] → ρ x = ρ' x ∧ ρ y = ρ' y := fun x y hx => ⟨harg x (by simp [hx]), harg y (by simp [hx])⟩
    cases callee with
    | value f =>
      have ef : ρ f = ρ' f := hh f (by simp [Call.operands])
      cases f <;> simp only [trCall, e, ef]
    | invoke r n => rfl
    | builtin b =>
      simp only [trCall, e]
      split
      · rename_i x t hx ht; rw [e1 x hx]
      · rename_i x y t u hx ht; rw [(e2 x y hx).1, (e2 x y hx).2]
      · rename_i x t hx ht; rw [e1 x hx]
      · rw [e]
      · rw [e]
      · rfl
  case makeFunc fn first caps =>
    cases fn <;> simp only [trOp]
    have e : caps.toList.map ρ = caps.toList.map ρ' := List.map_congr_left fun x hx => hh x (by simp; right; simpa using hx)
    rw [e]
  case slice t x lo hi mx =>
    have ex : ρ x = ρ' x := hh x (by simp)
    have el : lo.map ρ = lo.map ρ' := by cases lo <;> simp; exact hh _ (by simp)
    have eh : hi.map ρ = hi.map ρ' := by cases hi <;> simp; exact hh _ (by simp)
    cases mx with
    | none => simp only [trOp]; rw [ex, el, eh]
    | some v =>
      have ev : ρ v = ρ' v := hh v (by simp)
      simp only [trOp]; rw [ex, el, eh, ev]
  all_goals first
    | rfl
    | (simp only [hh _ (by simp)]; done)
    | (rw [hh _ (by simp)]; done)
    | (simp_all; done)

end Go.Ab
