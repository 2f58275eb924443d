/- Functions that are alike: equality, sizes, searches. -/
import Derived.Test.YtjikmaajdpcnhaaAb23
set_option linter.unusedSimpArgs false
set_option linter.unusedVariables false
namespace Go.Ab
open Go.RowKit

class Sz (α : Type) where
  sz : α → Nat
def szs {α : Type} [Sz α] : List α → Nat
  | [] => 0
  | x :: xs => Sz.sz x + szs xs
theorem szs_take {α : Type} [Sz α] {xs : List α} {i : Nat} {x : α} (htk : xs.take (i + 1) = xs.take i ++ [x]) : szs (xs.take (i + 1)) = szs (xs.take i) + Sz.sz x := by
  rw [htk]
  generalize xs.take i = l
  induction l with
  | nil => simp [szs]
  | cons y l ih => simp [szs, ih]; omega
theorem szs_take_le {α : Type} [Sz α] : ∀ (xs : List α) (i : Nat), szs (xs.take i) ≤ szs xs
  | [], i => by simp
  | x :: xs, 0 => by simp [szs]
  | x :: xs, i + 1 => by simp [szs]; exact szs_take_le xs i

def idx {α : Type} (p : α → Bool) (xs : List α) : Int := if xs.findIdx p < xs.length then (xs.findIdx p : Int) else -1
theorem idx_at {α : Type} {p : α → Bool} {xs : List α} {i : Nat} {x : α} (hx : xs[i]? = some x) (hp : p x = true) (hn : ∀ j y, j < i → xs[j]? = some y → p y = false) : idx p xs = (i : Int) := by
  have hi := (List.getElem?_eq_some_iff.1 hx).1
  have : xs.findIdx p = i := by
    rw [List.findIdx_eq hi]
    have hx' : xs[i] = x := (List.getElem?_eq_some_iff.1 hx).2
    exact ⟨by rw [hx']; exact hp, fun j hj => hn j _ hj (List.getElem?_eq_getElem (by omega))⟩
  unfold idx
  rw [this, if_pos hi]
theorem idx_no {α : Type} {p : α → Bool} {xs : List α} (hn : ∀ j y, j < xs.length → xs[j]? = some y → p y = false) : idx p xs = -1 := by
  have : xs.findIdx p = xs.length := by
    rw [List.findIdx_eq_length]
    intro x hx
    obtain ⟨j, hj, e⟩ := List.getElem_of_mem hx
    exact hn j x hj (by rw [List.getElem?_eq_getElem hj, e])
  unfold idx
  rw [this, if_neg (Nat.lt_irrefl _)]

section
variable {α : Type} [Cel α] {P : Program} {h h' : AH} {Q : Nat → List AV → AH → Prop} {k : AV → Prog}

def EqX (α : Type) [Cel α] (P : Program) (c : FuncId) (x : α) : Prop := ∀ (cs cs' : List AV) (F F' : List Nat) (h : AH), Cel.rep h x cs F → Cel.rep h x cs' F' → RCalls P c [.agg cs, .agg cs'] h (.bool true)
def EqC (α : Type) [Cel α] (P : Program) (c : FuncId) : Prop := ∀ x : α, EqX α P c x
def EqS (α : Type) [Cel α] (P : Program) (c : FuncId) : Prop := ∀ (xs : List α) (v v' : AV) (F F' : List Nat) (h : AH), SlRep h v xs F → SlRep h v' xs F' → RCalls P c [v, v'] h (.bool true)

def pEqS (w c : Nat) (x0 x1 : AV) : Prog := .op (.len 0 x0) fun v => .op (.len 0 x1) fun v_1 => .op (.bin 0 .neq v v_1) fun v => .ite v (.fin [.val (AV.bool false)]) (.loop [AV.int .i64 0] (fun vs => .op (.len 0 x0) fun v => .op (.bin 0 .lss (g vs 0) v) fun v => .ite v (.op (.idx w x0 (g vs 0)) fun v => .op (.ldn w v) fun v => .op (.idx w x1 (g vs 0)) fun v_2 => .op (.ldn w v_2) fun v_3 => .op (.call c [v, v_3]) fun v => .op (.una .not v) fun v => .ite v (.fin [.val (AV.bool false)]) (.op (.bin 0 .add (g vs 0) (AV.int .i64 1)) fun v => .leaf 0 [v])) (.leaf 2 [g vs 0])) fun t vs => tsel t 1 (.leaf 1 vs) (tsel t 2 (.fin [.val (AV.bool true)]) .bad))

/-- What a reader's walk has to show. -/
def Post (r : AV) (h : AH) : Nat → List AV → AH → Prop := fun t vs h' => t = 1 ∧ vs = [r] ∧ Ext h h'
theorem reader {f : FuncId} {args : List AV} {h : AH} {r : AV} {p : Prog} (c : ∀ {R : AV → AH → Prop}, (p.awp P h fun t vs h' => t = 1 ∧ ∃ v, vs = [v] ∧ R v h') → ACalls P f args h R) (ho : old h.n r) (w : p.awp P h (Post r h)) : RCalls P f args h r :=
  rcalls_of (c (Prog.awp_mono _ w fun t vs h' ⟨h1, h2, h3⟩ => ⟨h1, r, h2, rfl, h3⟩)) ho

def PostR (R : AV → AH → Prop) : Nat → List AV → AH → Prop := fun t vs h' => t = 1 ∧ ∃ v, vs = [v] ∧ R v h'
theorem tsel_ne {t n : Nat} {p q : Prog} (hn : t ≠ n) : tsel t n p q = q := by simp [tsel, hn]

theorem ends2 {X : Prop} {vs : List AV} {p q : Prog} (hp : p.awp P h Q) : if (2 : Nat) = 0 then X else (tsel 2 1 (.leaf 1 vs) (tsel 2 2 p q)).awp P h Q := by
  rw [if_neg (by decide)]; exact hp
theorem ends {X : Prop} {n : Nat} {vs : List AV} {p q : Prog} (hp : p.awp P h Q) : if n + 2 = 0 then X else (tsel (n + 2) 1 (.leaf 1 vs) (tsel (n + 2) (n + 2) p q)).awp P h Q := by
  rw [if_neg (by omega), tsel_ne (by omega), tsel_1]; exact hp
theorem nexts {X Y : Prop} (hx : X) : if (0 : Nat) = 0 then X else Y := by rw [if_pos rfl]; exact hx

theorem eqSx_spec {w c : Nat} (hw : w = Cel.w α) {xs : List α} (hc : ∀ x ∈ xs, EqX α P c x) {x0 x1 : AV} {F F' : List Nat} (r : SlRep h x0 xs F) (r' : SlRep h x1 xs F') :
    (pEqS w c x0 x1).awp P h (Post (.bool true) h) := by
  subst hw
  unfold pEqS
  have hsm := r.small
  have hpos := Cel.pos (α := α)
  refine aw_len r (aw_len r' (aw_neq (fun hne => absurd rfl hne) fun _ => aw_ite_f ?_))
  refine aw_upto xs.length (fun i vs h1 => vs = [.int .i64 (i : Int)] ∧ i ≤ xs.length ∧ h1 = h) ⟨rfl, Nat.zero_le _, rfl⟩ ?_
  rintro i vs h1 _ ⟨rfl, hi, rfl⟩
  refine aw_len r (aw_lss ?_ ?_)
  · intro hlt
    have hlt : i < xs.length := by simp [g] at hlt; exact hlt
    obtain ⟨x, hx, _, htk⟩ := drop_step hlt
    refine aw_ite_t (aw_idx r hx rfl ?_)
    intro b o cs Fi a rx _
    refine aw_ldn_at a (Ext.refl _) hpos (by rw [List.take_of_length_le (by rw [Cel.len rx]; exact Nat.le_refl _)]) (Cel.len rx) (aw_idx r' hx rfl ?_)
    intro b' o' cs' Fi' a' rx' _
    refine aw_ldn_at a' (Ext.refl _) hpos (by rw [List.take_of_length_le (by rw [Cel.len rx']; exact Nat.le_refl _)]) (Cel.len rx') (aw_rcall (hc x (List.mem_of_getElem? hx) cs cs' Fi Fi' h1 rx rx') (aw_not_t (aw_ite_f ?_)))
    refine aw_inc (j := i) (by omega) ?_
    exact aw_leaf (nexts ⟨hlt, rfl, hlt, rfl⟩)
  · intro hge
    exact aw_ite_f (aw_leaf (ends2 (aw_fin1 ⟨rfl, rfl, Ext.refl _⟩)))

/-! ### Sizes -/

def szr (b : Int) (s : Nat) : Int := if (s : Int) ≤ b then b - s else -1
def SzX (α : Type) [Cel α] [Sz α] (P : Program) (c : FuncId) (x : α) : Prop := Cel.ok x → ∀ (cs : List AV) (F : List Nat) (b : Int) (h : AH), Cel.rep h x cs F → 0 ≤ b → b ≤ 1048576 → RCalls P c [.agg cs, .int .i64 b] h (.int .i64 (szr b (Sz.sz x)))
def SzC (α : Type) [Cel α] [Sz α] (P : Program) (c : FuncId) : Prop := ∀ x : α, SzX α P c x
/-- The size of a slice: its elements, and what is in these. -/
def SzS (α : Type) [Cel α] (P : Program) (c : FuncId) (sz : List α → Nat) : Prop := ∀ (xs : List α) (_ : ∀ x ∈ xs, Cel.ok x) (v : AV) (F : List Nat) (b : Int) (h : AH), SlRep h v xs F → 0 ≤ b → b ≤ 1048576 → RCalls P c [v, .int .i64 b] h (.int .i64 (szr b (sz xs)))

def pSzF (x0 x1 : AV) : Prog := .op (.len 0 x0) fun v => .op (.bin 0 .sub x1 v) fun v => .op (.bin 0 .lss v (AV.int .i64 0)) fun v_1 => .ite v_1 (.fin [.val (AV.int .i64 (-1))]) (.fin [.val v])
theorem szF_spec {xs : List α} {x0 : AV} {F : List Nat} {b : Int} (r : SlRep h x0 xs F) (h0 : 0 ≤ b) (h1 : b ≤ 1048576) : (pSzF x0 (.int .i64 b)).awp P h (Post (.int .i64 (szr b xs.length)) h) := by
  have hsm := r.small
  unfold pSzF
  refine aw_len r (aw_subw ?_)
  rw [wrap_id (by omega) (by omega)]
  refine aw_lss (fun hl => aw_ite_t (aw_fin1 ⟨rfl, ?_, Ext.refl _⟩)) (fun hl => aw_ite_f (aw_fin1 ⟨rfl, ?_, Ext.refl _⟩))
  · simp only [szr]; rw [if_neg (by omega)]
  · simp only [szr]; rw [if_pos (by omega)]

def pSzS (w c : Nat) (x0 x1 : AV) : Prog := .op (.len 0 x0) fun v => .op (.bin 0 .sub x1 v) fun v => .op (.bin 0 .lss v (AV.int .i64 0)) fun v_1 => .ite v_1 (.fin [.val (AV.int .i64 (-1))]) (.loop [v, AV.int .i64 0] (fun vs => .op (.len 0 x0) fun v => .op (.bin 0 .lss (g vs 1) v) fun v => .ite v (.op (.idx w x0 (g vs 1)) fun v => .op (.ldn w v) fun v => .op (.call c [v, g vs 0]) fun v => .op (.bin 0 .lss v (AV.int .i64 0)) fun v_2 => .ite v_2 (.fin [.val (AV.int .i64 (-1))]) (.op (.bin 0 .add (g vs 1) (AV.int .i64 1)) fun v_3 => .leaf 0 [v, v_3])) (.leaf 2 [g vs 0, g vs 1])) fun t vs => tsel t 1 (.leaf 1 vs) (tsel t 2 (.fin [.val (g vs 0)]) .bad))

theorem szSx_spec [Sz α] {w c : Nat} (hw : w = Cel.w α) {xs : List α} (hc : ∀ x ∈ xs, SzX α P c x) (ok : ∀ x ∈ xs, Cel.ok x) {x0 : AV} {F : List Nat} {b : Int} (r : SlRep h x0 xs F) (h0 : 0 ≤ b) (h1 : b ≤ 1048576) :
    (pSzS w c x0 (.int .i64 b)).awp P h (Post (.int .i64 (szr b (xs.length + szs xs))) h) := by
  subst hw
  have hsm := r.small
  have hpos := Cel.pos (α := α)
  unfold pSzS
  refine aw_len r (aw_subw ?_)
  rw [wrap_id (by omega) (by omega)]
  refine aw_lss (fun hl => aw_ite_t (aw_fin1 ⟨rfl, ?_, Ext.refl _⟩)) (fun hl => aw_ite_f ?_)
  · simp only [szr]; rw [if_neg (by omega)]
  refine aw_upto xs.length (fun i vs h1 => vs = [.int .i64 (b - xs.length - szs (xs.take i)), .int .i64 (i : Int)] ∧ 0 ≤ b - xs.length - szs (xs.take i) ∧ i ≤ xs.length ∧ h1 = h) ⟨by simp [szs], by simp [szs]; omega, Nat.zero_le _, rfl⟩ ?_
  rintro i vs h1 _ ⟨rfl, hb, hi, rfl⟩
  refine aw_len r (aw_lss ?_ ?_)
  · intro hlt
    have hlt : i < xs.length := by simp [g] at hlt; exact hlt
    obtain ⟨x, hx, _, htk⟩ := drop_step hlt
    have hs := szs_take htk
    have hle := szs_take_le xs (i + 1)
    refine aw_ite_t (aw_idx r hx rfl ?_)
    intro bb o cs Fi a rx _
    refine aw_ldn_at a (Ext.refl _) hpos (by rw [List.take_of_length_le (by rw [Cel.len rx]; exact Nat.le_refl _)]) (Cel.len rx) (aw_rcall (hc x (List.mem_of_getElem? hx) (ok x (List.mem_of_getElem? hx)) cs Fi _ h1 rx hb (by omega)) ?_)
    refine aw_lss (fun hl => aw_ite_t (aw_fin1 ⟨rfl, ?_, Ext.refl _⟩)) (fun hl => aw_ite_f ?_)
    · simp only [szr] at hl ⊢
      split at hl
      · omega
      · rw [if_neg (by omega)]
    · refine aw_inc (j := i) (by omega) ?_
      refine aw_leaf (nexts ?_)
      have : szr (b - xs.length - szs (xs.take i)) (Sz.sz x) = b - xs.length - szs (xs.take (i + 1)) := by
        simp only [szr] at hl ⊢
        split at hl
        · rename_i hh; rw [if_pos hh]; omega
        · omega
      rw [this] at hl ⊢
      exact ⟨hlt, rfl, by omega, hlt, rfl⟩
  · intro hge
    have : i = xs.length := by simp [g] at hge; omega
    subst this
    rw [List.take_length] at hb
    refine aw_ite_f (aw_leaf (ends2 (aw_fin1 ⟨rfl, ?_, Ext.refl _⟩)))
    simp only [szr, g0, List.take_length]
    rw [if_pos (by omega)]
    rw [show b - ((xs.length + szs xs : Nat) : Int) = b - xs.length - szs xs by omega]

theorem szS_spec [Sz α] {w c : Nat} (hw : w = Cel.w α) (hc : SzC α P c) {xs : List α} (ok : ∀ x ∈ xs, Cel.ok x) {x0 : AV} {F : List Nat} {b : Int} (r : SlRep h x0 xs F) (h0 : 0 ≤ b) (h1 : b ≤ 1048576) :
    (pSzS w c x0 (.int .i64 b)).awp P h (Post (.int .i64 (szr b (xs.length + szs xs))) h) := szSx_spec hw (fun x _ => hc x) ok r h0 h1
theorem eqS_spec {w c : Nat} (hw : w = Cel.w α) (hc : EqC α P c) {xs : List α} {x0 x1 : AV} {F F' : List Nat} (r : SlRep h x0 xs F) (r' : SlRep h x1 xs F') :
    (pEqS w c x0 x1).awp P h (Post (.bool true) h) := eqSx_spec hw (fun x _ => hc x) r r'

/-! ### Searches -/

def pIdxF (w : Nat) (x0 x1 : AV) : Prog := .op (.len 0 x0) fun v => .loop [AV.int .i64 0] (fun vs => .op (.bin 0 .lss (g vs 0) v) fun v => .ite v (.op (.idx w x0 (g vs 0)) fun v => .op (.ldn w v) fun v => .op (.callv x1 [v]) fun v => .ite v (.fin [.val (g vs 0)]) (.op (.bin 0 .add (g vs 0) (AV.int .i64 1)) fun v => .leaf 0 [v])) (.leaf 2 [g vs 0])) fun t vs => tsel t 1 (.leaf 1 vs) (tsel t 2 (.fin [.val (AV.int .i64 (-1))]) .bad)

/-- A function value that looks at an element. -/
def Looks (α : Type) [Cel α] (P : Program) (h : AH) (f : FuncId) (caps : List AV) (p : α → Bool) : Prop := ∀ (x : α) (cs : List AV) (F : List Nat), Cel.rep h x cs F → RCalls P f (.agg cs :: caps) h (.bool (p x))

theorem idxF_spec {w : Nat} (hw : w = Cel.w α) {xs : List α} {x0 : AV} {F : List Nat} {f : FuncId} {caps : List AV} {p : α → Bool} (r : SlRep h x0 xs F) (hf : Looks α P h f caps p) :
    (pIdxF w x0 (.fn f caps)).awp P h (Post (.int .i64 (idx p xs)) h) := by
  subst hw
  have hsm := r.small
  have hpos := Cel.pos (α := α)
  unfold pIdxF
  refine aw_len r ?_
  refine aw_upto xs.length (fun i vs h1 => vs = [.int .i64 (i : Int)] ∧ i ≤ xs.length ∧ h1 = h ∧ ∀ j y, j < i → xs[j]? = some y → p y = false) ⟨rfl, Nat.zero_le _, rfl, fun j y hj => by omega⟩ ?_
  rintro i vs h1 _ ⟨rfl, hi, rfl, hn⟩
  refine aw_lss ?_ ?_
  · intro hlt
    have hlt : i < xs.length := by simp [g] at hlt; exact hlt
    obtain ⟨x, hx, _, htk⟩ := drop_step hlt
    refine aw_ite_t (aw_idx r hx rfl ?_)
    intro bb o cs Fi a rx _
    refine aw_ldn_at a (Ext.refl _) hpos (by rw [List.take_of_length_le (by rw [Cel.len rx]; exact Nat.le_refl _)]) (Cel.len rx) (aw_rcallv (hf x cs Fi rx) (aw_ite ?_ ?_))
    · intro hp
      exact aw_fin1 ⟨rfl, by rw [idx_at hx hp hn]; rfl, Ext.refl _⟩
    · intro hp
      refine aw_inc (j := i) (by omega) ?_
      refine aw_leaf (nexts ?_)
      refine ⟨hlt, rfl, hlt, rfl, fun j y hj hy => ?_⟩
      by_cases e : j = i
      · subst e; rw [hx] at hy; cases hy; exact hp
      · exact hn j y (by omega) hy
  · intro hge
    have : i = xs.length := by simp [g] at hge; omega
    subst this
    exact aw_ite_f (aw_leaf (ends2 (aw_fin1 ⟨rfl, by rw [idx_no hn], Ext.refl _⟩)))

end
end Go.Ab
