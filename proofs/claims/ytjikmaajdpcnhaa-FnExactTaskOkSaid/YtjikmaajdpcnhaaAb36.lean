/- What copies, compares and counts values: the forms. -/
import Derived.Test.YtjikmaajdpcnhaaAb35
set_option linter.unusedSimpArgs false
set_option linter.unusedVariables false
namespace Go.Ab
open Go.RowKit

theorem szs_mem {α : Type} [Sz α] : ∀ {xs : List α} {x : α}, x ∈ xs → Sz.sz x ≤ szs xs
  | y :: xs, x, h => by
    rcases List.mem_cons.1 h with e | e
    · subst e; simp [szs]
    · have := szs_mem e; simp only [szs]; omega
theorem szs_zero {α : Type} [Sz α] (hz : ∀ x : α, Sz.sz x = 0) : ∀ xs : List α, szs xs = 0
  | [] => rfl
  | x :: xs => by simp only [szs, hz, szs_zero hz xs]

section
variable {h : AH} {n m : Nat} {F G : List Nat}
theorem own_l (o : Own n h (F ++ G)) : Own n h F := ⟨(List.nodup_append.1 o.1).1, fun b hb => o.2 b (List.mem_append_left _ hb)⟩
theorem own_r (o : Own n h (F ++ G)) : Own n h G := ⟨(List.nodup_append.1 o.1).2.1, fun b hb => o.2 b (List.mem_append_right _ hb)⟩
theorem own_d (o : Own n h (F ++ G)) : ∀ c ∈ F, c ∉ G := fun c h1 h2 => (List.nodup_append.1 o.1).2.2 c h1 c h2 rfl
theorem own_app (o : Own n h F) (p : Own m h G) (hn : n ≤ m) (d : ∀ c ∈ F, c ∉ G) : Own n h (F ++ G) :=
  ⟨List.nodup_append.2 ⟨o.1, p.1, fun a ha b hb e => d a ha (e ▸ hb)⟩, fun b hb => by
    rcases List.mem_append.1 hb with hb | hb
    · exact o.2 b hb
    · exact ⟨Nat.le_trans hn (p.2 b hb).1, (p.2 b hb).2⟩⟩
theorem own_nils : Own n h ([] ++ []) := Own.nil
end

theorem ol_app2 {h : AH} {n : Nat} {F G : List Nat} (r : OwnL n h F) (r' : OwnL n h G) (d : ∀ c ∈ F, c ∉ G) : OwnL n h (F ++ G) := ol_app r r' (Nat.le_refl _) d
theorem oll_auto {n : Nat} {h : AH} {F : List Nat} (r : OwnL n h F := by (repeat (first | exact ol_nil | exact ol_mk (by assumption) (by assumption) om_auto | with_reducible apply ol_push1 | with_reducible apply ol_upd1 | ((with_reducible apply ol_ext1); assumption) | ((with_reducible apply ol_kp1); assumption) | exact nin_auto | exact dis_auto))) : OwnL n h F := r
/-- What a copied slice is. -/
def CopyL {α : Type} [Cel α] (P : Program) (c : FuncId) (xs : List α) : Prop := ∀ (v : AV) (F : List Nat) (h : AH), SlRep h v xs F → ACalls P c [v] h fun u h' => Ext h h' ∧ ∃ F', SlRep h' u xs F' ∧ Own h.n h' F'
theorem copyL_of {α : Type} [Cel α] [Sz α] {P : Program} {c e w bytes : Nat} {zero : List AV} (hw : w = Cel.w α) (hz : zero.length = w) (hb : bytes ≤ 67108864) {xs : List α} (hs : xs.length + szs xs ≤ 1048576)
    (hc : ∀ x : α, Sz.sz x ≤ 1048576 → CopyX α P e x) (run : ∀ {h : AH} {v : AV} {R : AV → AH → Prop}, ((pToS w bytes zero e v).awp P h fun t vs h' => t = 1 ∧ ∃ u, vs = [u] ∧ R u h') → ACalls P c [v] h R) : CopyL P c xs := by
  intro v F h r
  refine run (toSx_spec hw hz rfl (fun x hx => hc x (by have := szs_mem hx; omega)) r ?_)
  have : xs.length * bytes ≤ 1048576 * bytes := Nat.mul_le_mul_right _ (by omega)
  omega
theorem copy_r {α : Type} [Cel α] [Sz α] {P : Program} {f : FuncId} (c : ∀ xs : List α, xs.length + szs xs ≤ 1048576 → CopyL P f xs) {xs : List α} {v : AV} {F : List Nat} {h : AH} (r : SlRep h v xs F) (hs : xs.length + szs xs ≤ 1048576) : ACalls P f [v] h fun u h' => Ext h h' ∧ ∃ F', SlRep h' u xs F' ∧ Own h.n h' F' := c xs hs v F h r
def SzL (α : Type) [Cel α] [Sz α] (P : Program) (c : FuncId) : Prop := ∀ (xs : List α) (_ : ∀ x ∈ xs, Cel.ok x) (v : AV) (F : List Nat) (b : Int) (h : AH), SlRep h v xs F → 0 ≤ b → b ≤ 1048576 → RCalls P c [v, .int .i64 b] h (.int .i64 (szr b (xs.length + szs xs)))
end Go.Ab
