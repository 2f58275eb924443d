
/- Equality of lists, by a function. -/
import Derived.Test.YtjikmaajdpcnhaaAb36
set_option linter.unusedSimpArgs false
set_option linter.unusedVariables false
namespace Go.Ab
open Go.RowKit

def EqUp {α : Type} (xs ys : List α) (i : Nat) : Prop := ∀ (j : Nat) (x y : α), j < i → xs[j]? = some x → ys[j]? = some y → x = y
section
variable {α : Type} {xs ys : List α} {i : Nat} {x y : α}
theorem eu0 : EqUp xs ys 0 := fun j x y hj => by omega
theorem euS (h : EqUp xs ys i) (hx : xs[i]? = some x) (hy : ys[i]? = some y) (e : x = y) : EqUp xs ys (i + 1) := fun j u w hj hu hw => by
  by_cases e' : j = i
  · subst e'; rw [hx] at hu; rw [hy] at hw; cases hu; cases hw; exact e
  · exact h j u w (by omega) hu hw
theorem euEnd (h : EqUp xs ys xs.length) (hl : xs.length = ys.length) : xs = ys := by
  apply List.ext_getElem hl
  intro j h1 h2
  exact h j _ _ h1 (List.getElem?_eq_getElem h1) (List.getElem?_eq_getElem h2)
theorem euNot (hx : xs[i]? = some x) (hy : ys[i]? = some y) (e : ¬ x = y) : ¬ xs = ys := fun k => by
  subst k; rw [hx] at hy; cases hy; exact e rfl
end

/-- slices.EqualFunc -/
def pEqF (w : Nat) (zero : List AV) (x0 x1 x2 : AV) : Prog := .op (.len 0 x0) fun v => .op (.len 0 x1) fun v_1 => .op (.bin 0 .neq v v_1) fun v => .ite v (.fin [.val (AV.bool false)]) (.op (.len 0 x0) fun v => .loop [AV.int .i64 0] (fun vs => .op (.bin 0 .lss (g vs 0) v) fun v => .ite v (.op (.idx w x0 (g vs 0)) fun v => .op (.ldn w v) fun v => .op (.alloc zero) fun v_2 => .op (.st w v_2 v) fun v => .op (.idx w x1 (g vs 0)) fun v => .op (.ldn w v) fun v => .op (.alloc zero) fun v_3 => .op (.st w v_3 v) fun v => .op (.ldn w v_2) fun v => .op (.ldn w v_3) fun v_4 => .op (.callv x2 [v, v_4]) fun v => .op (.una .not v) fun v => .ite v (.fin [.val (AV.bool false)]) (.op (.bin 0 .add (g vs 0) (AV.int .i64 1)) fun v => .leaf 0 [v])) (.leaf 2 [g vs 0])) fun t vs => tsel t 1 (.leaf 1 vs) (tsel t 2 (.fin [.val (AV.bool true)]) .bad))

theorem splice_all {zero cs : List AV} (h : zero.length = cs.length) : splice zero 0 cs = cs := by
  unfold splice; rw [List.drop_of_length_le (by omega)]; simp

section
variable {α : Type} [Cel α] {P : Program} {h : AH}
theorem eqF_spec {w : Nat} {zero : List AV} (hw : w = Cel.w α) (hz : zero.length = w) {xs ys : List α} {v0 v1 : AV} {F G : List Nat} {f : FuncId} {caps : List AV} (r : SlRep h v0 xs F) (r' : SlRep h v1 ys G)
    (hf : ∀ x ∈ xs, ∀ y, ∀ (cs cs' : List AV) (F F' : List Nat) (h' : AH), Ext h h' → Cel.rep h' x cs F → Cel.rep h' y cs' F' → RCalls P f ([.agg cs, .agg cs'] ++ caps) h' (.bool (bp (x = y)))) :
    (pEqF w zero v0 v1 (.fn f caps)).awp P h (Post (.bool (bp (xs = ys))) h) := by
  subst hw
  have hpos := Cel.pos (α := α)
  have hsm := r.small
  unfold pEqF
  refine aw_len r (aw_len r' (aw_neq (fun hne => ?_) (fun heq => ?_)))
  · exact aw_ite_t (aw_fin1 (pf (by intro k; subst k; exact hne rfl)))
  · refine aw_ite_f (aw_len r ?_)
    refine aw_upto xs.length (fun i vs h1 => vs = [.int .i64 (i : Int)] ∧ i ≤ xs.length ∧ Ext h h1 ∧ EqUp xs ys i) ⟨rfl, Nat.zero_le _, Ext.refl _, eu0⟩ ?_
    rintro i vs h1 _ ⟨rfl, hi, e1, hu⟩
    simp only [g0]
    refine aw_lss (fun hlt => aw_ite_t ?_) (fun hge => aw_ite_f ?_)
    · obtain ⟨x, hx, -, -⟩ := drop_step (show i < xs.length by omega)
      obtain ⟨y, hy, -, -⟩ := drop_step (show i < ys.length by omega)
      refine aw_idx r hx rfl fun b o cs Fi a rx _ => ?_
      have hl := Cel.len rx
      refine aw_ldn_at a e1 hpos (List.take_of_length_le (by omega)) hl (aw_alloc (aw_st_0 rfl hl (by omega) ?_))
      rw [splice_all (by omega)]
      refine aw_idx r' hy rfl fun b' o' cs' Fi' a' ry _ => ?_
      have hl' := Cel.len ry
      refine aw_ldn_at a' (e1.push _) hpos (List.take_of_length_le (by omega)) hl' (aw_alloc (aw_st_0 rfl hl' (by omega) ?_))
      rw [splice_all (by omega)]
      refine aw_ldn_at (at_push.push _) (Ext.refl _) hpos (List.take_of_length_le (by omega)) hl (aw_ldn_at at_push (Ext.refl _) hpos (List.take_of_length_le (by omega)) hl' ?_)
      have e2 : Ext h ((h1.push ⟨cs, 0, 0⟩).push ⟨cs', 0, 0⟩) := (e1.push _).push _
      refine aw_rcallv (hf x (List.mem_of_getElem? hx) y cs cs' Fi Fi' _ e2 (rep_ext rx e2) (rep_ext ry e2)) (aw_not ?_)
      refine aw_ite (fun hp => ?_) (fun hp => ?_)
      · exact aw_fin1 (pf (euNot hx hy (bp_false (by simpa using hp))) e2)
      · exact aw_inc (by omega) (aw_leaf (aw_nexts ⟨by omega, rfl, by omega, e2, euS hu hx hy (bp_true (by simpa using hp))⟩))
    · exact aw_leaf (aw_ends (by decide) (aw_tsel_ne (by decide) (aw_tsel_eq (aw_fin1 (pt (euEnd (by rw [show i = xs.length by omega] at hu; exact hu) (by omega)) e1)))))
end
end Go.Ab
