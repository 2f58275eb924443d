
/- Sizes of what FindTrail, OldestOf and DropTrail hand back. -/
import Derived.Test.YtideefohbkhhhaaGreatW14
set_option linter.unusedSimpArgs false
set_option linter.unusedVariables false
namespace Go.Proofs.YtideefohbkhhhaaGreat
open Go Go.Ab
theorem szs_set_le {α : Type} [Sz α] {y : α} : ∀ {l : List α} {i : Nat} {x : α}, l[i]? = some x → Sz.sz y ≤ Sz.sz x → szs (l.set i y) ≤ szs l
  | [], i, x, h, _ => by simp at h
  | a :: l, 0, x, h, hy => by
    simp at h; subst h
    simp only [List.set_cons_zero, szs]; omega
  | a :: l, i + 1, x, h, hy => by
    simp at h
    have := szs_set_le (l := l) h hy
    simp only [List.set_cons_succ, szs]; omega
theorem szs_erase_le {α : Type} [Sz α] : ∀ (l : List α) (i : Nat), szs (l.eraseIdx i) ≤ szs l
  | [], i => by simp
  | a :: l, 0 => by simp only [List.eraseIdx_cons_zero, szs]; omega
  | a :: l, i + 1 => by
    have := szs_erase_le l i
    simp only [List.eraseIdx_cons_succ, szs]; omega
theorem sz_zeroT0 : Sz.sz zeroT = 0 := rfl
theorem findT_sz (l : List Stripe) (id : Int) : Sz.sz (findT l id) ≤ szs l := by
  rcases e : findO l id with _ | t
  · rw [(find_n e).1, sz_zeroT0]; omega
  · rw [(find_s e).1]
    unfold findO at e
    rcases hx : l[(stripe id l.length).toNat]? with _ | x
    · rw [hx] at e; simp at e
    · rw [hx] at e
      simp only [inStripe] at e
      have hm := szs_mem (List.mem_of_getElem? hx)
      have hx2 : Sz.sz x = x.l.length + szs x.l := rfl
      split at e
      · simp at e
      · have hm2 := szs_mem (List.mem_of_getElem? e)
        omega
theorem oldStep_mem {l : List Trail} : ∀ {r : List Trail} {b : Option Trail}, (∀ t, b = some t → t ∈ l) → (∀ t ∈ r, t ∈ l) → ∀ t, r.foldl oldStep b = some t → t ∈ l
  | [], b, hb, _, t, h => hb t h
  | a :: r, b, hb, hr, t, h => by
    refine oldStep_mem (r := r) (b := oldStep b a) ?_ (fun t ht => hr t (List.mem_cons_of_mem _ ht)) t h
    intro u hu
    have ha := hr a List.mem_cons_self
    unfold oldStep at hu
    split at hu
    · simp at hu; exact hu ▸ ha
    · split at hu
      · simp at hu; exact hu ▸ ha
      · simp at hu; exact hu ▸ hb _ rfl
theorem oldest_sz (l : List Stripe) : Sz.sz ((oldest (allT l)).getD zeroT) ≤ szs l := by
  rcases e : oldest (allT l) with _ | t
  · simp only [Option.getD_none, sz_zeroT0]; omega
  · simp only [Option.getD_some]
    have h1 : t ∈ allT l := oldStep_mem (l := allT l) (r := allT l) (b := none) (by simp) (fun _ h => h) t e
    have h2 := szs_mem h1
    have h3 := allT_b l
    omega
theorem dropT_sz (l : List Stripe) (id : Int) : (dropT l id).length + szs (dropT l id) ≤ l.length + szs l := by
  rcases hx : l[(stripe id l.length).toNat]? with _ | x
  · unfold dropT; rw [hx]; simp only; omega
  · by_cases e : idx (isId id) x.l < 0
    · rw [drop_no hx e]; omega
    · rw [drop_yes hx e]
      have h1 : szs (l.set (stripe id l.length).toNat { x with l := x.l.eraseIdx (idx (isId id) x.l).toNat }) ≤ szs l := by
        refine szs_set_le hx ?_
        have h2 := szs_erase_le x.l (idx (isId id) x.l).toNat
        have h3 : Sz.sz x = x.l.length + szs x.l := rfl
        have h4 : Sz.sz ({ x with l := x.l.eraseIdx (idx (isId id) x.l).toNat } : Stripe) = (x.l.eraseIdx (idx (isId id) x.l).toNat).length + szs (x.l.eraseIdx (idx (isId id) x.l).toNat) := rfl
        have h5 := List.length_eraseIdx_le x.l (idx (isId id) x.l).toNat
        omega
      simp only [List.length_set]; omega
end Go.Proofs.YtideefohbkhhhaaGreat
