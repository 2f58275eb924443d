/- Marks: what is written through a slice of one's own, and read again. -/
import Derived.Test.YtjikmaajdpcnhaaAb28
set_option linter.unusedSimpArgs false
set_option linter.unusedVariables false
namespace Go.Ab
open Go.RowKit

/-- A type without slices in it. -/
class Flat (α : Type) extends Cel α where
  enc : α → List AV
  rep_iff : ∀ {h x cs F}, rep h x cs F ↔ cs = enc x ∧ F = []

section
variable {α : Type} [Flat α] {P : Program} {h h' : AH} {Q : Nat → List AV → AH → Prop} {k : AV → Prog}

theorem enc_len (x : α) : (Flat.enc x).length = Cel.w α := by
  have : Cel.rep h00 x (Flat.enc x) [] := Flat.rep_iff.2 ⟨rfl, rfl⟩
  exact Cel.len this

theorem reps_flat : ∀ {xs : List α} {cs : List AV} {F : List Nat}, Reps h xs cs F ↔ cs = xs.flatMap Flat.enc ∧ F = []
  | [], cs, F => by simp [Reps]
  | x :: xs, cs, F => by
    simp only [Reps, List.flatMap_cons]
    constructor
    · rintro ⟨c1, c2, F1, F2, rfl, rfl, r1, r2⟩
      obtain ⟨rfl, rfl⟩ := Flat.rep_iff.1 r1
      obtain ⟨rfl, rfl⟩ := reps_flat.1 r2
      exact ⟨rfl, rfl⟩
    · rintro ⟨rfl, rfl⟩
      exact ⟨Flat.enc x, _, [], [], rfl, rfl, Flat.rep_iff.2 ⟨rfl, rfl⟩, reps_flat.2 ⟨rfl, rfl⟩⟩

theorem flat_len' (xs : List α) : (xs.flatMap Flat.enc).length = xs.length * Cel.w α := by
  have := (reps_flat (h := h00) (xs := xs)).2 ⟨rfl, rfl⟩
  exact this.length

/-- A slice of a flat type: its block, written out. -/
theorem SlRep.flat {v : AV} {xs : List α} {F : List Nat} (r : SlRep h v xs F) : (v = .nils ∧ xs = [] ∧ F = []) ∨
    ∃ b pre post, v = .sl b pre.length xs.length ∧ F = [b] ∧ b < h.n ∧ live h b ∧ (h.get b).es = Cel.w α ∧ xs.length < 281474976710656 ∧ (h.get b).cells = pre ++ (xs.flatMap Flat.enc ++ post) := by
  rcases r with ⟨rfl, h1, rfl⟩ | ⟨b, off, F', cs, rfl, rfl, h1, h2, h3, h4, h5, h6, h7⟩
  · exact .inl ⟨rfl, List.length_eq_zero_iff.1 h1, rfl⟩
  · obtain ⟨e, rfl⟩ := reps_flat.1 h7
    right
    refine ⟨b, (h.get b).cells.take off, (h.get b).cells.drop (off + xs.length * Cel.w α), ?_, rfl, h1, h2, h3, h5, ?_⟩
    · simp; omega
    · rw [← e, h6, ← List.append_assoc, ← List.take_add, List.take_append_drop]
theorem slrep_flat {b : Nat} {pre post : List AV} {xs : List α} (h1 : b < h.n) (h2 : live h b) (h3 : (h.get b).es = Cel.w α) (h5 : xs.length < 281474976710656) (hc : (h.get b).cells = pre ++ (xs.flatMap Flat.enc ++ post)) :
    SlRep h (.sl b pre.length xs.length) xs [b] := by
  have hl := flat_len' xs
  refine .inr ⟨b, pre.length, [], xs.flatMap Flat.enc, rfl, rfl, h1, h2, h3, ?_, h5, ?_, reps_flat.2 ⟨rfl, rfl⟩⟩
  · rw [hc]; simp only [List.length_append, hl]; omega
  · rw [hc, List.drop_left, List.take_append_of_le_length (by omega), List.take_of_length_le (by omega)]

theorem upd_upd {b : Nat} {k1 k2 : Blk} : (h.upd b k1).upd b k2 = h.upd b k2 := by
  unfold AH.upd
  simp only [AH.mk.injEq, true_and]
  funext i
  by_cases e : i = b <;> simp [e]
theorem upd_same {b : Nat} : h.upd b (h.get b) = h := by
  cases h with
  | mk n get =>
    unfold AH.upd
    simp only [AH.mk.injEq, true_and]
    funext i
    by_cases e : i = b <;> simp [e]
theorem kp_upd {b : Nat} {kk : Blk} : Kp h (h.upd b kk) [b] := ⟨Nat.le_refl _, fun c _ hX => by
  have : c ≠ b := fun e => hX (by simp [e])
  simp [this]⟩

/-- A store into a block that is written out. -/
theorem aw_st_u {b n es : Nat} {A B R xs : List AV} {x : AV} {o : Nat} (hx : x.cells? = some xs) (hn : xs.length = n) (hB : B.length = n) (ho : o = A.length) (hk : (k (.tup [])).awp P (h.upd b ⟨A ++ (xs ++ R), es, 0⟩) Q) :
    (Prog.op (.st n (.ptr b o) x) k).awp P (h.upd b ⟨A ++ (B ++ R), es, 0⟩) Q := by
  subst ho
  refine aw_st (by simp [mine]) hx hn (by simp; omega) ?_
  have : splice (A ++ (B ++ R)) A.length xs = A ++ (xs ++ R) := by
    unfold splice
    have e : A ++ (B ++ R) = (A ++ B) ++ R := by simp
    have hl : A.length + xs.length = (A ++ B).length := by simp; omega
    rw [List.take_left, hl, e, List.drop_left]
    simp
  simp only [upd_get, if_true, this, upd_upd]
  exact hk

/-- A store into a field of an element. -/
theorem aw_st_e {b es j : Nat} {A E R : List AV} {x v : AV} {o : Nat} (hx : x.cells? = some [v]) (hj : j < E.length) (ho : o = A.length + j) (hk : (k (.tup [])).awp P (h.upd b ⟨A ++ (E.set j v ++ R), es, 0⟩) Q) :
    (Prog.op (.st 1 (.ptr b o) x) k).awp P (h.upd b ⟨A ++ (E ++ R), es, 0⟩) Q := by
  have e1 : A ++ (E ++ R) = (A ++ E.take j) ++ ([E[j]] ++ (E.drop (j + 1) ++ R)) := by
    have : E = E.take j ++ E[j] :: E.drop (j + 1) := by rw [← List.drop_eq_getElem_cons hj, List.take_append_drop]
    have h2 : E ++ R = E.take j ++ ([E[j]] ++ (E.drop (j + 1) ++ R)) := (congrArg (· ++ R) this).trans (by simp only [List.append_assoc]; rfl)
    rw [h2, List.append_assoc]
  have e2 : A ++ (E.set j v ++ R) = (A ++ E.take j) ++ ([v] ++ (E.drop (j + 1) ++ R)) := by
    rw [List.set_eq_take_append_cons_drop, if_pos hj]
    simp
  rw [e1]
  refine aw_st_u (n := 1) hx rfl rfl (by simp; omega) ?_
  rw [← e2]; exact hk
theorem aw_idx_n {b off n es i : Nat} {q : IntKind} (hi : i < n) (hk : (k (.ptr b (off + i * es))).awp P h Q) : (Prog.op (.idx es (.sl b off n) (.int q i)) k).awp P h Q := aw_idx_raw hi hk
theorem aw_len_raw {b off n : Nat} (hk : (k (.int .i64 n)).awp P h Q) : (Prog.op (.len 0 (.sl b off n)) k).awp P h Q := hk
theorem aw_len_nil (hk : (k (.int .i64 0)).awp P h Q) : (Prog.op (.len 0 .nils) k).awp P h Q := hk

/-! ### Marks -/
end

class Mk (α : Type) where
  put : Int → α → α × Int
def mks {α : Type} [Mk α] : Int → List α → List α × Int
  | m, [] => ([], m)
  | m, x :: xs => ((Mk.put m x).1 :: (mks (Mk.put m x).2 xs).1, (mks (Mk.put m x).2 xs).2)
theorem mks_snoc {α : Type} [Mk α] : ∀ (l : List α) (m : Int) (x : α), mks m (l ++ [x]) = ((mks m l).1 ++ [(Mk.put (mks m l).2 x).1], (Mk.put (mks m l).2 x).2)
  | [], m, x => by simp [mks]
  | y :: l, m, x => by simp [mks, mks_snoc l]
theorem mks_len {α : Type} [Mk α] : ∀ (l : List α) (m : Int), (mks m l).1.length = l.length
  | [], m => rfl
  | y :: l, m => by simp [mks, mks_len l]
/-- Each takes 'c' marks. -/
theorem mks_cnt {α : Type} [Mk α] {c : Nat} (hc : ∀ m (x : α), (Mk.put m x).2 = m + c) : ∀ (l : List α) (m : Int), (mks m l).2 = m + l.length * c
  | [], m => by simp [mks]
  | y :: l, m => by
    simp only [mks, mks_cnt hc l, hc, List.length_cons]
    rw [Int.add_assoc, Int.natCast_add, Int.add_mul]; simp; omega

def MarkS (α : Type) [Cel α] [Mk α] (P : Program) (f : FuncId) : Prop := ∀ (xs : List α) (v : AV) (F : List Nat) (n : Nat) (m : Int) (h : AH), SlRep h v xs F → Own n h F → 0 ≤ m → (mks m xs).2 ≤ 1099511627776 →
  ACalls P f [v, .int .i64 m] h fun r h' => r = .int .i64 (mks m xs).2 ∧ Kp h h' F ∧ SlRep h' v (mks m xs).1 F ∧ Own n h' F
def HeldS (α : Type) [Cel α] [Mk α] (P : Program) (f : FuncId) : Prop := ∀ (xs : List α) (v : AV) (F : List Nat) (m : Int) (h : AH), SlRep h v (mks m xs).1 F → 0 ≤ m → (mks m xs).2 ≤ 1099511627776 → RCalls P f [v, .int .i64 m] h (.int .i64 (mks m xs).2)

end Go.Ab
