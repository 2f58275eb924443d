/- What stands for a value: cells, slices, and the steps that read them. -/
import Derived.Test.YtjikmaajdpcnhaaAb20
set_option linter.unusedSimpArgs false
set_option linter.unusedVariables false
namespace Go.Ab
open Go.RowKit

def At (h : AH) (b o : Nat) (cs : List AV) : Prop := b < h.n ∧ live h b ∧ ((h.get b).cells.drop o).take cs.length = cs
theorem At.ext {h h' : AH} {b o : Nat} {cs : List AV} (a : At h b o cs) (e : Ext h h') : At h' b o cs := by
  obtain ⟨h1, h2, h3⟩ := a
  have := e.2 b h1
  exact ⟨Nat.lt_of_lt_of_le h1 e.1, by unfold live; rw [this]; exact h2, by rw [this]; exact h3⟩
theorem At.get {h : AH} {b o : Nat} {cs : List AV} (a : At h b o cs) {j : Nat} {v : AV} (hv : cs[j]? = some v) : (h.get b).cells[o + j]? = some v := by
  have := a.2.2
  rw [← this, List.getElem?_take] at hv
  split at hv
  · rw [List.getElem?_drop] at hv; exact hv
  · cases hv
theorem At.drop {h : AH} {b o : Nat} {cs : List AV} (a : At h b o cs) (j : Nat) : At h b (o + j) (cs.drop j) := by
  refine ⟨a.1, a.2.1, ?_⟩
  have := a.2.2
  rw [← List.drop_drop, List.length_drop, ← List.drop_take, this]
theorem At.take {h : AH} {b o : Nat} {cs : List AV} (a : At h b o cs) (n : Nat) : At h b o (cs.take n) := by
  refine ⟨a.1, a.2.1, ?_⟩
  have := a.2.2
  rw [List.length_take]
  conv => rhs; rw [← this]
  rw [List.take_take]

/-- The shape of a slice of 'n' elements of 'w' cells: 'R' tells of its cells. -/
def ShR (h : AH) (w : Nat) (v : AV) (n : Nat) (R : List AV → List Nat → Prop) (F : List Nat) : Prop :=
  (v = .nils ∧ n = 0 ∧ F = []) ∨
  ∃ b off F' cs, v = .sl b off n ∧ F = b :: F' ∧ b < h.n ∧ live h b ∧ (h.get b).es = w ∧ off + n * w ≤ (h.get b).cells.length ∧ n < 281474976710656 ∧ cs = ((h.get b).cells.drop off).take (n * w) ∧ R cs F'

/-- What stands for a value in cells. -/
class Cel (α : Type) where
  w : Nat
  rep : AH → α → List AV → List Nat → Prop
  pos : 0 < w
  len : ∀ {h x cs F}, rep h x cs F → cs.length = w
  lt : ∀ {h x cs F}, rep h x cs F → ∀ b ∈ F, b < h.n
  keep : ∀ {h h' x cs F}, rep h x cs F → (∀ b ∈ F, h'.get b = h.get b ∧ b < h'.n) → rep h' x cs F
  ok : α → Prop

def Reps {α : Type} [Cel α] (h : AH) : List α → List AV → List Nat → Prop
  | [], cs, F => cs = [] ∧ F = []
  | x :: xs, cs, F => ∃ c1 c2 F1 F2, cs = c1 ++ c2 ∧ F = F1 ++ F2 ∧ Cel.rep h x c1 F1 ∧ Reps h xs c2 F2

def SlRep {α : Type} [Cel α] (h : AH) (v : AV) (xs : List α) (F : List Nat) : Prop := ShR h (Cel.w α) v xs.length (Reps h xs) F

section
variable {α : Type} [Cel α] {h h' : AH}

theorem Reps.length : ∀ {xs : List α} {cs : List AV} {F : List Nat}, Reps h xs cs F → cs.length = xs.length * Cel.w α
  | [], cs, F, r => by obtain ⟨rfl, _⟩ := r; simp
  | x :: xs, cs, F, r => by
    obtain ⟨c1, c2, F1, F2, rfl, rfl, r1, r2⟩ := r
    have := Cel.len r1
    have := Reps.length r2
    simp [Nat.succ_mul]; omega
theorem Reps.lt : ∀ {xs : List α} {cs : List AV} {F : List Nat}, Reps h xs cs F → ∀ b ∈ F, b < h.n
  | [], cs, F, r => by obtain ⟨_, rfl⟩ := r; simp
  | x :: xs, cs, F, r => by
    obtain ⟨c1, c2, F1, F2, rfl, rfl, r1, r2⟩ := r
    intro b hb
    rcases List.mem_append.1 hb with hb | hb
    · exact Cel.lt r1 b hb
    · exact r2.lt b hb
theorem Reps.keep : ∀ {xs : List α} {cs : List AV} {F : List Nat}, Reps h xs cs F → (∀ b ∈ F, h'.get b = h.get b ∧ b < h'.n) → Reps h' xs cs F
  | [], cs, F, r, _ => r
  | x :: xs, cs, F, r, k => by
    obtain ⟨c1, c2, F1, F2, rfl, rfl, r1, r2⟩ := r
    exact ⟨c1, c2, F1, F2, rfl, rfl, Cel.keep r1 fun b hb => k b (List.mem_append_left _ hb), r2.keep fun b hb => k b (List.mem_append_right _ hb)⟩
theorem Reps.get : ∀ {xs : List α} {cs : List AV} {F : List Nat}, Reps h xs cs F → ∀ {i : Nat} {x : α}, xs[i]? = some x → ∃ Fi, Cel.rep h x ((cs.drop (i * Cel.w α)).take (Cel.w α)) Fi ∧ ∀ b ∈ Fi, b ∈ F
  | [], cs, F, r, i, x, hx => by simp at hx
  | y :: xs, cs, F, r, i, x, hx => by
    obtain ⟨c1, c2, F1, F2, rfl, rfl, r1, r2⟩ := r
    have hl := Cel.len r1
    cases i with
    | zero =>
      simp at hx; subst hx
      refine ⟨F1, ?_, fun b hb => List.mem_append_left _ hb⟩
      simp [List.take_append, ← hl]
      exact r1
    | succ i =>
      simp at hx
      obtain ⟨Fi, g1, g2⟩ := r2.get hx
      refine ⟨Fi, ?_, fun b hb => List.mem_append_right _ (g2 b hb)⟩
      have : (c1 ++ c2).drop ((i + 1) * Cel.w α) = c2.drop (i * Cel.w α) := by
        rw [Nat.succ_mul, Nat.add_comm, ← hl, List.drop_append]
        simp
      rw [this]; exact g1

theorem SlRep.lt {v : AV} {xs : List α} {F : List Nat} (r : SlRep h v xs F) : ∀ b ∈ F, b < h.n := by
  rcases r with ⟨_, _, rfl⟩ | ⟨b, off, F', cs, _, rfl, h1, _, _, _, _, _, h2⟩
  · simp
  · intro x hx
    rcases List.mem_cons.1 hx with e | e
    · rw [e]; exact h1
    · exact h2.lt x e
theorem SlRep.keep {v : AV} {xs : List α} {F : List Nat} (r : SlRep h v xs F) (k : ∀ b ∈ F, h'.get b = h.get b ∧ b < h'.n) : SlRep h' v xs F := by
  rcases r with g | ⟨b, off, F', cs, e1, rfl, h1, h2, h3, h4, h5, h6, h7⟩
  · exact .inl g
  · have kb := k b (by simp)
    refine .inr ⟨b, off, F', cs, e1, rfl, kb.2, ?_, ?_, ?_, h5, ?_, h7.keep fun x hx => k x (by simp [hx])⟩
    · unfold live; rw [kb.1]; exact h2
    · rw [kb.1]; exact h3
    · rw [kb.1]; exact h4
    · rw [kb.1]; exact h6
theorem SlRep.ext {v : AV} {xs : List α} {F : List Nat} (r : SlRep h v xs F) (e : Ext h h') : SlRep h' v xs F :=
  r.keep fun b hb => ⟨e.2 b (r.lt b hb), Nat.lt_of_lt_of_le (r.lt b hb) e.1⟩
theorem rep_ext {x : α} {cs : List AV} {F : List Nat} (r : Cel.rep h x cs F) (e : Ext h h') : Cel.rep h' x cs F :=
  Cel.keep r fun b hb => ⟨e.2 b (Cel.lt r b hb), Nat.lt_of_lt_of_le (Cel.lt r b hb) e.1⟩
theorem SlRep.small {v : AV} {xs : List α} {F : List Nat} (r : SlRep h v xs F) : xs.length < 281474976710656 := by
  rcases r with ⟨_, h1, _⟩ | ⟨_, _, _, _, _, _, _, _, _, _, h1, _⟩ <;> omega
theorem SlRep.nils : SlRep h .nils ([] : List α) [] := .inl ⟨rfl, rfl, rfl⟩
theorem SlRep.mid {v : AV} {xs : List α} {F : List Nat} (r : SlRep h v xs F) : lenOk 0 v = true ∧ sllen v = some xs.length := by
  rcases r with ⟨rfl, h1, _⟩ | ⟨_, _, _, _, rfl, _⟩
  · simp [lenOk, sllen, h1]
  · simp [lenOk, sllen]

/-- An element. -/
theorem SlRep.elem {v : AV} {xs : List α} {F : List Nat} (r : SlRep h v xs F) {i : Nat} {x : α} (hx : xs[i]? = some x) :
    ∃ b off cs Fi, v = .sl b off xs.length ∧ At h b (off + i * Cel.w α) cs ∧ Cel.rep h x cs Fi ∧ (∀ y ∈ Fi, y ∈ F) := by
  have hi : i < xs.length := (List.getElem?_eq_some_iff.1 hx).1
  rcases r with ⟨_, h1, _⟩ | ⟨b, off, F', cs, e1, rfl, h1, h2, h3, h4, h5, h6, h7⟩
  · omega
  · obtain ⟨Fi, g1, g2⟩ := h7.get hx
    refine ⟨b, off, _, Fi, e1, ⟨h1, h2, ?_⟩, g1, fun y hy => by simp [g2 y hy]⟩
    rw [Cel.len g1, h6, List.drop_take, List.drop_drop, List.take_take]
    have : i * Cel.w α + Cel.w α ≤ xs.length * Cel.w α := by
      have := Nat.mul_le_mul_right (Cel.w α) (show i + 1 ≤ xs.length from hi)
      rw [Nat.succ_mul] at this; exact this
    rw [Nat.min_eq_left (by omega)]

end

section
variable {α : Type} [Cel α] {P : Program} {h h0 : AH} {Q : Nat → List AV → AH → Prop} {k : AV → Prog}

theorem aw_len {v : AV} {xs : List α} {F : List Nat} (r : SlRep h0 v xs F) (hk : (k (.int .i64 xs.length)).awp P h Q) : (Prog.op (.len 0 v) k).awp P h Q := by
  obtain ⟨h1, h2⟩ := r.mid
  simp only [Prog.awp, AOp.go, h1, h2]; exact hk
theorem aw_idx {v : AV} {xs : List α} {F : List Nat} {es i : Nat} {q : IntKind} {x : α} (r : SlRep h0 v xs F) (hx : xs[i]? = some x) (hw : es = Cel.w α)
    (hk : ∀ b o cs Fi, At h0 b o cs → Cel.rep h0 x cs Fi → (∀ y ∈ Fi, y ∈ F) → (k (.ptr b o)).awp P h Q) : (Prog.op (.idx es v (.int q i)) k).awp P h Q := by
  subst hw
  obtain ⟨b, off, cs, Fi, rfl, h1, h2, h3⟩ := r.elem hx
  have hi : i < xs.length := (List.getElem?_eq_some_iff.1 hx).1
  simp only [Prog.awp, AOp.go]
  exact ⟨Int.natCast_nonneg _, by omega, by simpa using hk _ _ cs Fi h1 h2 h3⟩
theorem aw_idxi {v : AV} {xs : List α} {F : List Nat} {es : Nat} {i : Int} {q : IntKind} {x : α} (r : SlRep h0 v xs F) (hi : 0 ≤ i) (hx : xs[i.toNat]? = some x) (hw : es = Cel.w α)
    (hk : ∀ b o cs Fi, At h0 b o cs → Cel.rep h0 x cs Fi → (∀ y ∈ Fi, y ∈ F) → (k (.ptr b o)).awp P h Q) : (Prog.op (.idx es v (.int q i)) k).awp P h Q := by
  have := aw_idx (P := P) (h := h) (Q := Q) (k := k) (q := q) r hx hw hk
  rwa [Int.toNat_of_nonneg hi] at this
theorem aw_fad_at {b o off : Nat} {cs : List AV} (a : At h0 b o cs) (hk : At h0 b (o + off) (cs.drop off) → (k (.ptr b (o + off))).awp P h Q) : (Prog.op (.fad off (.ptr b o)) k).awp P h Q := hk (a.drop off)
theorem aw_ld1_at {b o : Nat} {v : AV} {cs : List AV} (a : At h0 b o (v :: cs)) (e : Ext h0 h) (hk : (k v).awp P h Q) : (Prog.op (.ld1 (.ptr b o)) k).awp P h Q := by
  have a := a.ext e
  exact aw_ld1 (by simpa using a.get (j := 0) rfl) a.2.1 hk
theorem aw_ldn_at {b o n : Nat} {cs cs' : List AV} (a : At h0 b o cs) (e : Ext h0 h) (h0 : 0 < n) (hc : cs.take n = cs') (hn : cs'.length = n) (hk : (k (.agg cs')).awp P h Q) : (Prog.op (.ldn n (.ptr b o)) k).awp P h Q := by
  have a := (a.ext e).take n
  rw [hc] at a
  refine aw_ldn ?_ h0 hn a.2.1 hk
  have := a.2.2
  rw [hn] at this; exact this
theorem aw_inc {j : Nat} (hj : j < 4611686018427387904) (hk : (k (.int .i64 ((j + 1 : Nat) : Int))).awp P h Q) : (Prog.op (.bin 0 .add (.int .i64 (j : Int)) (.int .i64 1)) k).awp P h Q := by
  refine aw_addw ?_
  rw [wrap_id (by omega) (by omega)]
  simpa using hk
theorem at_push {h : AH} {cs : List AV} {es : Nat} : At (h.push ⟨cs, es, 0⟩) h.n 0 cs := by
  refine ⟨by simp, by simp [live], by simp⟩

theorem At.push {h : AH} {b o : Nat} {cs : List AV} (a : At h b o cs) (k : Blk) : At (h.push k) b o cs := a.ext ((Ext.refl _).push k)
theorem upd_push_self (h : AH) (k k' : Blk) : (h.push k).upd h.n k' = h.push k' := by
  unfold AH.push AH.upd
  simp only [AH.mk.injEq, true_and]
  funext i
  by_cases e : i = h.n <;> simp [e]
theorem upd_push_lt {h : AH} {b : Nat} (hb : b < h.n) (k k' : Blk) : (h.push k).upd b k' = (h.upd b k').push k := by
  unfold AH.push AH.upd
  simp only [AH.mk.injEq, true_and]
  funext i
  by_cases e : i = h.n
  · have : i ≠ b := by omega
    simp [e]; omega
  · simp [e]
theorem aw_ld1_a {b o : Nat} {v : AV} {cs : List AV} (a : At h0 b o cs) (e : Ext h0 h) (hv : cs[0]? = some v) (hk : (k v).awp P h Q) : (Prog.op (.ld1 (.ptr b o)) k).awp P h Q := by
  have a := a.ext e
  exact aw_ld1 (by simpa using a.get hv) a.2.1 hk
theorem aw_ld1_b {b o j : Nat} {v : AV} {cs : List AV} (a : At h0 b o cs) (e : Ext h0 h) (hv : cs[j]? = some v) (hk : (k v).awp P h Q) : (Prog.op (.ld1 (.ptr b (o + j))) k).awp P h Q := by
  have a := a.ext e
  exact aw_ld1 (a.get hv) a.2.1 hk
theorem aw_ld1_c {b o i j : Nat} {v : AV} {cs : List AV} (a : At h0 b o cs) (e : Ext h0 h) (hv : cs[i + j]? = some v) (hk : (k v).awp P h Q) : (Prog.op (.ld1 (.ptr b (o + i + j))) k).awp P h Q := by
  rw [Nat.add_assoc]; exact aw_ld1_b a e hv hk
theorem aw_ldn_b {b o j n : Nat} {cs cs' : List AV} (a : At h0 b o cs) (e : Ext h0 h) (h0 : 0 < n) (hc : (cs.drop j).take n = cs') (hn : cs'.length = n) (hk : (k (.agg cs')).awp P h Q) : (Prog.op (.ldn n (.ptr b (o + j))) k).awp P h Q :=
  aw_ldn_at (a.drop j) e h0 hc hn hk
theorem aw_ldn_c {b o i j n : Nat} {cs cs' : List AV} (a : At h0 b o cs) (e : Ext h0 h) (h0 : 0 < n) (hc : (cs.drop (i + j)).take n = cs') (hn : cs'.length = n) (hk : (k (.agg cs')).awp P h Q) : (Prog.op (.ldn n (.ptr b (o + i + j))) k).awp P h Q := by
  rw [Nat.add_assoc]; exact aw_ldn_b a e h0 hc hn hk
/-- A store into the youngest block. -/
theorem aw_st_0 {n o : Nat} {x : AV} {cs xs : List AV} {es : Nat} (hx : x.cells? = some xs) (hn : xs.length = n) (ho : o + n ≤ cs.length) (hk : (k (.tup [])).awp P (h.push ⟨splice cs o xs, es, 0⟩) Q) :
    (Prog.op (.st n (.ptr h.n o) x) k).awp P (h.push ⟨cs, es, 0⟩) Q := by
  refine aw_st (by simp [mine]) hx hn (by simpa using ho) ?_
  simp only [push_get, if_true, upd_push_self]; exact hk
theorem aw_st_1 {n o : Nat} {x : AV} {cs xs : List AV} {es : Nat} {k1 : Blk} (hx : x.cells? = some xs) (hn : xs.length = n) (ho : o + n ≤ cs.length) (hk : (k (.tup [])).awp P ((h.push ⟨splice cs o xs, es, 0⟩).push k1) Q) :
    (Prog.op (.st n (.ptr h.n o) x) k).awp P ((h.push ⟨cs, es, 0⟩).push k1) Q := by
  refine aw_st (by simp [mine]) hx hn (by simpa using ho) ?_
  rw [upd_push_lt (by simp)]
  simpa [upd_push_self] using hk
theorem aw_st_2 {n o : Nat} {x : AV} {cs xs : List AV} {es : Nat} {k1 k2 : Blk} (hx : x.cells? = some xs) (hn : xs.length = n) (ho : o + n ≤ cs.length) (hk : (k (.tup [])).awp P (((h.push ⟨splice cs o xs, es, 0⟩).push k1).push k2) Q) :
    (Prog.op (.st n (.ptr h.n o) x) k).awp P (((h.push ⟨cs, es, 0⟩).push k1).push k2) Q := by
  have e1 : ¬ (h.n = h.n + 1 + 1) := by omega
  have e2 : ¬ (h.n = h.n + 1) := by omega
  have hg : (((h.push ⟨cs, es, 0⟩).push k1).push k2).get h.n = ⟨cs, es, 0⟩ := by simp [e1, e2]
  refine aw_st (by simp only [mine, hg]) hx hn (by rw [hg]; exact ho) ?_
  rw [upd_push_lt (by simp only [push_n]; omega), upd_push_lt (by simp), upd_push_self, hg]
  exact hk
/-! ### Which operation comes -/
theorem g_ld1 {a : AV} (x' : (Prog.op (.ld1 a) k).awp P h Q) : (Prog.op (.ld1 a) k).awp P h Q := x'
theorem g_ldn {n : Nat} {a : AV} (x' : (Prog.op (.ldn n a) k).awp P h Q) : (Prog.op (.ldn n a) k).awp P h Q := x'
theorem g_st {n : Nat} {a x : AV} (x' : (Prog.op (.st n a x) k).awp P h Q) : (Prog.op (.st n a x) k).awp P h Q := x'
theorem g_idx {n : Nat} {a x : AV} (x' : (Prog.op (.idx n a x) k).awp P h Q) : (Prog.op (.idx n a x) k).awp P h Q := x'
theorem g_bin {n : Nat} {o : BinOp} {x y : AV} (x' : (Prog.op (.bin n o x y) k).awp P h Q) : (Prog.op (.bin n o x y) k).awp P h Q := x'
theorem g_box {x : AV} (x' : (Prog.op (.box x) k).awp P h Q) : (Prog.op (.box x) k).awp P h Q := x'
theorem g_build {z : List AV} {ps : List (Nat × Nat × AV)} (x' : (Prog.op (.build z ps) k).awp P h Q) : (Prog.op (.build z ps) k).awp P h Q := x'
theorem g_ext {x : AV} {i : Nat} (x' : (Prog.op (.ext x i) k).awp P h Q) : (Prog.op (.ext x i) k).awp P h Q := x'
theorem g_fld1 {x : AV} {i : Nat} (x' : (Prog.op (.fld1 i x) k).awp P h Q) : (Prog.op (.fld1 i x) k).awp P h Q := x'
theorem g_fldn {x : AV} {i n : Nat} (x' : (Prog.op (.fldn i n x) k).awp P h Q) : (Prog.op (.fldn i n x) k).awp P h Q := x'
theorem g_una {o : UnOp} {x : AV} (x' : (Prog.op (.una o x) k).awp P h Q) : (Prog.op (.una o x) k).awp P h Q := x'
theorem g_len {n : Nat} {x : AV} (x' : (Prog.op (.len n x) k).awp P h Q) : (Prog.op (.len n x) k).awp P h Q := x'
theorem g_pick {c x y : AV} (x' : (Prog.op (.pick c x y) k).awp P h Q) : (Prog.op (.pick c x y) k).awp P h Q := x'
theorem g_bslice {e n : Nat} {z : List AV} {ps : List (Nat × Nat × AV)} (x' : (Prog.op (.bslice e n z ps) k).awp P h Q) : (Prog.op (.bslice e n z ps) k).awp P h Q := x'
theorem g_app {e n : Nat} {x y : AV} (x' : (Prog.op (.app e n x y) k).awp P h Q) : (Prog.op (.app e n x y) k).awp P h Q := x'
theorem g_slc {e : Nat} {x : AV} {l u m : Option AV} (x' : (Prog.op (.slc e x l u m) k).awp P h Q) : (Prog.op (.slc e x l u m) k).awp P h Q := x'
theorem g_mnx {b : Bool} {l : List AV} (x' : (Prog.op (.mnx b l) k).awp P h Q) : (Prog.op (.mnx b l) k).awp P h Q := x'
theorem g_conv {q : IntKind} {x : AV} (x' : (Prog.op (.conv q x) k).awp P h Q) : (Prog.op (.conv q x) k).awp P h Q := x'
theorem g_gop {c : AV} {w : Bool} {o : AOp} (x' : (Prog.gop c w o k).awp P h Q) : (Prog.gop c w o k).awp P h Q := x'
theorem g_fin {rs : List RV} (x' : (Prog.fin rs).awp P h Q) : (Prog.fin rs).awp P h Q := x'
theorem aw_build {zero cs : List AV} {parts : List (Nat × Nat × AV)} (hc : afill zero parts = some cs) (hk : (k (.agg cs)).awp P h Q) : (Prog.op (.build zero parts) k).awp P h Q := by
  simp only [Prog.awp, AOp.go, hc]; exact hk
theorem at_cn {b o n : Nat} {cs cs' : List AV} (a : At h b o cs) (hc : cs.take n = cs') (hn : cs'.length = n) (h0 : 0 < n) : (RV.cn n (.ptr b o)).get h = some (.agg cs') := by
  have a := a.take n
  rw [hc] at a
  have h2 : (h.get b).st ≠ 2 := a.2.1
  have h3 := a.2.2
  rw [hn] at h3
  have : o + n ≤ (h.get b).cells.length := by
    have := congrArg List.length h3
    simp only [List.length_take, List.length_drop] at this; omega
  simp only [RV.get, h2, if_false, this, if_true, h3]
theorem at_c1 {b o : Nat} {v : AV} {cs : List AV} (a : At h b o cs) (hv : cs[0]? = some v) : (RV.c1 (.ptr b o)).get h = some v := by
  have h2 : (h.get b).st ≠ 2 := a.2.1
  have := a.get hv
  simp only [Nat.add_zero] at this
  simp only [RV.get, h2, if_false, this]
theorem aw_fin_1 {r : RV} {v : AV} (hr : r.get h = some v) (hk : Q 1 [v] h) : (Prog.fin [r]).awp P h Q := by
  simp only [Prog.awp, rvals, hr]; exact hk
theorem aw_fin_2 {r r2 : RV} {v v2 : AV} (hr : r.get h = some v) (hr2 : r2.get h = some v2) (hk : Q 1 [.tup [v, v2]] h) : (Prog.fin [r, r2]).awp P h Q := by
  simp only [Prog.awp, rvals, hr, hr2]; exact hk
theorem aw_fin_3 {r r2 r3 : RV} {v v2 v3 : AV} (hr : r.get h = some v) (hr2 : r2.get h = some v2) (hr3 : r3.get h = some v3) (hk : Q 1 [.tup [v, v2, v3]] h) : (Prog.fin [r, r2, r3]).awp P h Q := by
  simp only [Prog.awp, rvals, hr, hr2, hr3]; exact hk

end
theorem drop_step {α : Type} {xs : List α} {i : Nat} (hi : i < xs.length) : ∃ x, xs[i]? = some x ∧ xs.drop i = x :: xs.drop (i + 1) ∧ xs.take (i + 1) = xs.take i ++ [x] :=
  ⟨xs[i], List.getElem?_eq_getElem hi, List.drop_eq_getElem_cons hi, by rw [List.take_add_one, List.getElem?_eq_getElem hi]; rfl⟩

section
variable {α : Type} [Cel α] {P : Program} {h h0 : AH} {Q : Nat → List AV → AH → Prop} {k : AV → Prog}
theorem aw_chk_ldn {b o n : Nat} {cs cs' : List AV} {p : Prog} (a : At h0 b o cs) (e : Ext h0 h) (h0 : 0 < n) (hc : cs.take n = cs') (hn : cs'.length = n) (hk : p.awp P h Q) : (Prog.chk (.ldn n (.ptr b o)) (.agg cs') p).awp P h Q := by
  refine ⟨?_, hk⟩
  have := aw_ldn_at (P := P) (k := fun v => .leaf 0 [v]) (Q := fun t vs h' => vs = [.agg cs'] ∧ h' = h) a e h0 hc hn ⟨rfl, rfl⟩
  simp only [Prog.awp, AOp.go, List.cons.injEq, and_true] at this
  simp only [AOp.still, AOp.go, and_true]
  exact this
theorem aw_chk_ld1 {b o : Nat} {v : AV} {cs : List AV} {p : Prog} (a : At h0 b o cs) (e : Ext h0 h) (hv : cs[0]? = some v) (hk : p.awp P h Q) : (Prog.chk (.ld1 (.ptr b o)) v p).awp P h Q := by
  refine ⟨?_, hk⟩
  have := aw_ld1_a (P := P) (k := fun v => .leaf 0 [v]) (Q := fun t vs h' => vs = [v] ∧ h' = h) a e hv ⟨rfl, rfl⟩
  simp only [Prog.awp, AOp.go, List.cons.injEq, and_true] at this
  simp only [AOp.still, AOp.go, and_true]
  exact this
end
end Go.Ab
