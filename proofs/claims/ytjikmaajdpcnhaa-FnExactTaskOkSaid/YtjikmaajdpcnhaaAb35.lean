/- More steps; ends of readers. -/
import Derived.Test.YtjikmaajdpcnhaaAb34
import Derived.Test.YtjikmaajdpcnhaaAb31
set_option linter.unusedSimpArgs false
set_option linter.unusedVariables false
namespace Go.Ab
open Go.RowKit

section
variable {h h' : AH}
theorem pv {a b : AV} (e : a = b) (x : Ext h h' := by exact ext_auto) : (1 : Nat) = 1 ∧ [a] = [b] ∧ Ext h h' := ⟨rfl, by rw [e], x⟩
theorem pb {a b : Bool} (e : a = b) (x : Ext h h' := by exact ext_auto) : (1 : Nat) = 1 ∧ [AV.bool a] = [AV.bool b] ∧ Ext h h' := ⟨rfl, by rw [e], x⟩
theorem pi {a b : Int} {q : IntKind} (e : a = b) (x : Ext h h' := by exact ext_auto) : (1 : Nat) = 1 ∧ [AV.int q a] = [AV.int q b] ∧ Ext h h' := ⟨rfl, by rw [e], x⟩
theorem pt {p : Prop} (e : p) (x : Ext h h' := by exact ext_auto) : (1 : Nat) = 1 ∧ [AV.bool true] = [AV.bool (bp p)] ∧ Ext h h' := ⟨rfl, by rw [bp_t e], x⟩
theorem pf {p : Prop} (e : ¬ p) (x : Ext h h' := by exact ext_auto) : (1 : Nat) = 1 ∧ [AV.bool false] = [AV.bool (bp p)] ∧ Ext h h' := ⟨rfl, by rw [bp_f e], x⟩
end

theorem bp_eq {p : Prop} {b : Bool} (h : b = true ↔ p) : b = bp p := by
  by_cases hp : p
  · rw [bp_t hp]; exact h.2 hp
  · rw [bp_f hp]; cases b
    · rfl
    · exact absurd (h.1 rfl) hp
theorem bp_congr {p q : Prop} (h : p ↔ q) : bp p = bp q := by rw [propext h]
theorem bp_true {p : Prop} (h : bp p = true) : p := bp_iff.1 h
theorem bp_false {p : Prop} (h : bp p = false) : ¬ p := fun hp => by rw [bp_t hp] at h; cases h

/-! ### What holds of all so far -/
section
variable {α : Type} {xs : List α} {p : Nat → α → Prop} {i : Nat} {y : α}
def Upto (xs : List α) (p : Nat → α → Prop) (i : Nat) : Prop := ∀ (j : Nat) (x : α), j < i → xs[j]? = some x → p j x
theorem up0 : Upto xs p 0 := fun j x hj => by omega
theorem upS (h : Upto xs p i) (hy : xs[i]? = some y) (hp : p i y) : Upto xs p (i + 1) := fun j x hj hx => by
  by_cases e : j = i
  · subst e; rw [hy] at hx; cases hx; exact hp
  · exact h j x (by omega) hx
theorem upAll {p : α → Prop} (h : Upto xs (fun _ => p) xs.length) : ∀ x ∈ xs, p x := fun x hx => by
  obtain ⟨j, hj, e⟩ := List.getElem_of_mem hx
  exact h j x hj (by rw [List.getElem?_eq_getElem hj, e])
theorem upEnd (h : Upto xs p xs.length) : ∀ j x, xs[j]? = some x → p j x := fun j x hx => h j x (List.getElem?_eq_some_iff.1 hx).1 hx
theorem upNot {p : α → Prop} (hy : xs[i]? = some y) (hp : ¬ p y) : ¬ ∀ x ∈ xs, p x := fun h => hp (h y (List.mem_of_getElem? hy))
end

section
variable {α : Type} [Cel α] {P : Program} {h h0 : AH} {Q : Nat → List AV → AH → Prop} {k : AV → Prog}
/-- An element that is there. -/
theorem ixg {v : AV} {xs : List α} {F : List Nat} {es i : Nat} {q : IntKind} (hk : ∀ x, xs[i]? = some x → ∀ b o cs Fi, At h0 b o cs → Cel.rep h0 x cs Fi → (∀ y ∈ Fi, y ∈ F) → (k (.ptr b o)).awp P h Q) (r : SlRep h0 v xs F := by assumption) (hi : i < xs.length := by omega) (hw : es = Cel.w α := by rfl) : (Prog.op (.idx es v (.int q i)) k).awp P h Q :=
  aw_idx r (List.getElem?_eq_getElem hi) hw (hk _ (List.getElem?_eq_getElem hi))
theorem ixgi {v : AV} {xs : List α} {F : List Nat} {es : Nat} {i : Int} {q : IntKind} (hk : ∀ x, xs[i.toNat]? = some x → ∀ b o cs Fi, At h0 b o cs → Cel.rep h0 x cs Fi → (∀ y ∈ Fi, y ∈ F) → (k (.ptr b o)).awp P h Q) (r : SlRep h0 v xs F := by assumption) (h1 : 0 ≤ i := by omega) (hi : i.toNat < xs.length := by omega) (hw : es = Cel.w α := by rfl) : (Prog.op (.idx es v (.int q i)) k).awp P h Q :=
  aw_idxi r h1 (List.getElem?_eq_getElem hi) hw (hk _ (List.getElem?_eq_getElem hi))
end

section
variable {P : Program} {h : AH} {Q : Nat → List AV → AH → Prop} {k : AV → Prog}
theorem g_call {f : FuncId} {l : List AV} (x' : (Prog.op (.call f l) k).awp P h Q) : (Prog.op (.call f l) k).awp P h Q := x'
theorem g_awp {p : Prog} (x' : p.awp P h Q) : p.awp P h Q := x'
theorem g_callf (f : FuncId) {l : List AV} (x' : (Prog.op (.call f l) k).awp P h Q) : (Prog.op (.call f l) k).awp P h Q := x'
theorem g_callv {f : AV} {l : List AV} (x' : (Prog.op (.callv f l) k).awp P h Q) : (Prog.op (.callv f l) k).awp P h Q := x'
end

/-! ### Strings -/
def bys (s : ByteArray) : List UInt8 := s.data.toList
theorem bys_len (s : ByteArray) : (bys s).length = s.size := by show s.data.toList.length = s.data.size; simp
theorem bys_get (s : ByteArray) (i : Nat) : s[i]? = (bys s)[i]? := by
  unfold bys
  rw [Array.getElem?_toList]
  by_cases h : i < s.size
  · rw [getElem?_pos s i h, Array.getElem?_eq_getElem (by simpa using h)]; rfl
  · rw [getElem?_neg s i h, Array.getElem?_eq_none (by simpa using h)]
section
variable {P : Program} {h : AH} {Q : Nat → List AV → AH → Prop} {k : AV → Prog}
theorem sx {s : ByteArray} {i : Nat} {q : IntKind} (hk : ∀ c : UInt8, (bys s)[i]? = some c → (k (.int .u8 (c.toNat : Int))).awp P h Q) (hi : i < s.size := by omega) : (Prog.op (.sidx (.str s) (.int q i)) k).awp P h Q := by
  have hb := bys_len s
  simp only [Prog.awp, AOp.go]
  refine ⟨Int.natCast_nonneg _, (bys s)[i]'(by omega), ?_, hk _ (List.getElem?_eq_getElem (by omega))⟩
  rw [Int.toNat_natCast, bys_get]
  exact List.getElem?_eq_getElem (by omega)
theorem sx1 {s : ByteArray} {i : Nat} {q : IntKind} {c : UInt8} (hc : (bys s)[i]? = some c) (hk : (k (.int .u8 (c.toNat : Int))).awp P h Q) : (Prog.op (.sidx (.str s) (.int q i)) k).awp P h Q := by
  simp only [Prog.awp, AOp.go]
  refine ⟨Int.natCast_nonneg _, c, ?_, hk⟩
  rw [Int.toNat_natCast, bys_get]; exact hc
theorem w_conv8 {c : UInt8} (hk : (k (.int .i64 (c.toNat : Int))).awp P h Q) : (Prog.op (.conv .i64 (.int .u8 (c.toNat : Int))) k).awp P h Q := by
  have hc := c.toNat_lt
  refine aw_conv ?_
  rw [wrap_id (by omega) (by omega)]; exact hk
theorem w_sgeq {a b : ByteArray} (hk : (k (.bool (!(Op.bytesLess a.toList b.toList)))).awp P h Q) : (Prog.op (.bin 1 .geq (.str a) (.str b)) k).awp P h Q := hk
theorem w_seqS {a : ByteArray} (hk : (k (.bool false)).awp P h Q) : (Prog.op (.bin 1 .neq (.str a) (.str a)) k).awp P h Q := aw_sneq (fun h => absurd rfl h) fun _ => hk
theorem w_ineqS {q : IntKind} {a : Int} (hk : (k (.bool false)).awp P h Q) : (Prog.op (.bin 0 .neq (.int q a) (.int q a)) k).awp P h Q := aw_neq (fun h => absurd rfl h) fun _ => hk
theorem w_bneqS {a : Bool} (hk : (k (.bool false)).awp P h Q) : (Prog.op (.bin 2 .neq (.bool a) (.bool a)) k).awp P h Q := aw_bneq (by simpa using hk)
theorem w_max {a b : Int} (hk : (k (.int .i64 (max a b))).awp P h Q) : (Prog.op (.mnx false [.int .i64 a, .int .i64 b]) k).awp P h Q := by
  simp only [Prog.awp, AOp.go, amnx, amnxGo]
  have : (if a < b then b else a) = max a b := by split <;> omega
  rw [if_neg (by decide), this]; exact hk
theorem w_min {a b : Int} (hk : (k (.int .i64 (min a b))).awp P h Q) : (Prog.op (.mnx true [.int .i64 a, .int .i64 b]) k).awp P h Q := by
  simp only [Prog.awp, AOp.go, amnx, amnxGo]
  have : (if b < a then b else a) = min a b := by split <;> omega
  rw [if_pos trivial, this]; exact hk
/-- A size is counted. -/
theorem aw_sz {f : FuncId} {args : List AV} {b : Int} {s : Nat} (c : RCalls P f args h (.int .i64 (szr b s))) (h1 : ¬ (s : Int) ≤ b → (k (.int .i64 (-1))).awp P h Q) (h2 : (s : Int) ≤ b → (k (.int .i64 (b - s))).awp P h Q) : (Prog.op (.call f args) k).awp P h Q := by
  refine aw_rcall c ?_
  unfold szr
  split
  · rename_i e; exact h2 e
  · rename_i e; exact h1 e
theorem w_muln {a b : Int} (h1 : -9223372036854775808 ≤ a * b) (h2 : a * b ≤ 9223372036854775807) (hk : (k (.int .i64 (a * b))).awp P h Q) : (Prog.op (.bin 0 .mul (.int .i64 a) (.int .i64 b)) k).awp P h Q := aw_mulw (by rw [wrap_id h1 h2]; exact hk)
end
end Go.Ab
