/- Stripes, told plainly; what a step does to them. -/
import Derived.Test.YtpcgbddmdipfbaaW14
import Derived.Test.YtpcgbddmdipfbaaW15
import Derived.Test.YtpcgbddmdipfbaaW56
set_option linter.unusedSimpArgs false
set_option linter.unusedVariables false
namespace Go.Proofs.Ytpcgbddmdipfbaa
open Go Go.Ab

/-- An element, changed. -/
def upd {α : Type} (l : List α) (i : Nat) (f : α → α) : List α := match l[i]? with
  | some a => l.set i (f a)
  | none => l
theorem upd_s {α : Type} {l : List α} {i : Nat} {f : α → α} {a : α} (h : l[i]? = some a) : upd l i f = l.set i (f a) := by unfold upd; rw [h]
theorem upd_len {α : Type} {l : List α} {i : Nat} {f : α → α} : (upd l i f).length = l.length := by
  unfold upd; split <;> simp
/-- The lock of a trail's stripe, set. -/
def lockS (st : List Stripe) (trace v : Int) : List Stripe := upd st (stripe trace st.length).toNat fun s => { s with held := v }
theorem allT_at {l : List Stripe} {i : Nat} {x : Stripe} (h : l[i]? = some x) : allT l = allT (l.take i) ++ (x.l ++ allT (l.drop (i + 1))) := by
  conv => lhs; rw [get_split h]
  simp [allT]
theorem allT_set {l : List Stripe} {i : Nat} {x x' : Stripe} (h : l[i]? = some x) : allT (l.set i x') = allT (l.take i) ++ (x'.l ++ allT (l.drop (i + 1))) := by
  rw [set_split h]
  simp [allT]
theorem mem_allTi {l : List Stripe} {t : Trail} : t ∈ allT l ↔ ∃ (i : Nat) (x : Stripe), l[i]? = some x ∧ t ∈ x.l := by
  unfold allT
  rw [List.mem_flatMap]
  constructor
  · rintro ⟨x, hx, ht⟩
    obtain ⟨i, hi⟩ := List.mem_iff_getElem?.1 hx
    exact ⟨i, x, hi, ht⟩
  · rintro ⟨i, x, hi, ht⟩
    exact ⟨x, List.mem_of_getElem? hi, ht⟩
abbrev idLt (a b : Trail) : Prop := a.id < b.id
theorem pw_of_adj {xs : List Trail} (h : ∀ (k : Nat) (t : Trail), xs[k]? = some t → ∀ u, 0 < k → xs[((k : Int) - 1).toNat]? = some u → ¬ t.id ≤ u.id) : xs.Pairwise idLt := by
  rw [List.pairwise_iff_getElem]
  intro i j hi hj hij
  induction j with
  | zero => omega
  | succ j ih =>
    have h1 := h (j + 1) xs[j + 1] (List.getElem?_eq_getElem hj) (xs[j]'(by omega)) (by omega) (by rw [show (((j + 1 : Nat) : Int) - 1).toNat = j by omega]; exact List.getElem?_eq_getElem (by omega))
    by_cases e : i = j
    · subst e; show _ < _; omega
    · have := ih (by omega) (by omega)
      show _ < _
      have : xs[i].id < (xs[j]'(by omega)).id := this
      omega
theorem adj_of_pw {xs : List Trail} (h : xs.Pairwise idLt) : ∀ (k : Nat) (t : Trail), xs[k]? = some t → ∀ u, 0 < k → xs[((k : Int) - 1).toNat]? = some u → ¬ t.id ≤ u.id := by
  intro k t ht u hk hu
  rw [List.pairwise_iff_getElem] at h
  obtain ⟨h1, rfl⟩ := List.getElem?_eq_some_iff.1 ht
  obtain ⟨h2, rfl⟩ := List.getElem?_eq_some_iff.1 hu
  have := h _ k h2 h1 (by omega)
  unfold idLt at this
  omega
/-- Stripes that are right, told by lists. -/
def stripesN (l : List Stripe) : Prop := (1 ≤ (l.length : Int) ∧ (l.length : Int) ≤ 3) ∧
  (∀ (i : Nat) (x : Stripe), l[i]? = some x → (-1 ≤ x.held ∧ x.held ≤ 4) ∧ (∀ t ∈ x.l, trailOk t ∧ stripe t.id l.length = i) ∧ x.l.Pairwise idLt) ∧ ((allT l).map (·.stamp)).Nodup
theorem nodup_snoc {α : Type} {xs : List α} {y : α} : (xs ++ [y]).Nodup ↔ xs.Nodup ∧ y ∉ xs := by
  rw [List.nodup_append]
  constructor
  · rintro ⟨h1, -, h3⟩
    exact ⟨h1, fun hy => h3 y hy y (by simp) rfl⟩
  · rintro ⟨h1, h2⟩
    exact ⟨h1, by simp, fun a ha b hb e => h2 (by rw [List.mem_singleton.1 hb] at e; exact e ▸ ha)⟩
theorem stripesOk_iff {l : List Stripe} : stripesOk l ↔ stripesN l := by
  unfold stripesOk stripesN
  constructor
  · rintro ⟨h1, h2⟩
    refine ⟨h1, fun i x hx => ?_, ?_⟩
    · obtain ⟨a1, a2⟩ := h2 i x hx
      refine ⟨a1, fun t ht => ?_, pw_of_adj fun k t ht u hk hu => (a2 k t ht).2.2.1 u hk hu⟩
      obtain ⟨k, hk⟩ := List.mem_iff_getElem?.1 ht
      exact ⟨(a2 k t hk).1, (a2 k t hk).2.1⟩
    · have : ∀ i, i ≤ l.length → ((allT (l.take i)).map (·.stamp)).Nodup := by
        intro i
        induction i with
        | zero => intro _; simp [allT]
        | succ i ih =>
          intro hi
          obtain ⟨x, hx, -, htk⟩ := drop_step (show i < l.length by omega)
          obtain ⟨a1, a2⟩ := h2 i x hx
          have inner : ∀ k, k ≤ x.l.length → ((allT (l.take i) ++ x.l.take k).map (·.stamp)).Nodup := by
            intro k
            induction k with
            | zero => intro _; simpa using ih (by omega)
            | succ k ihk =>
              intro hk
              obtain ⟨t, ht, -, htk2⟩ := drop_step (show k < x.l.length by omega)
              rw [htk2, ← List.append_assoc, List.map_append, List.map_singleton, nodup_snoc]
              exact ⟨ihk (by omega), (a2 k t ht).2.2.2⟩
          rw [allT_s htk]
          simpa using inner x.l.length (Nat.le_refl _)
      simpa using this l.length (Nat.le_refl _)
  · rintro ⟨h1, h2, h3⟩
    refine ⟨h1, fun i x hx => ?_⟩
    obtain ⟨a1, a2, a3⟩ := h2 i x hx
    refine ⟨a1, fun k t ht => ⟨(a2 t (List.mem_of_getElem? ht)).1, (a2 t (List.mem_of_getElem? ht)).2, fun u hk hu => adj_of_pw a3 k t ht u hk hu, ?_⟩⟩
    rw [allT_at hx, get_split ht] at h3
    have e : allT (l.take i) ++ (x.l.take k ++ t :: x.l.drop (k + 1) ++ allT (l.drop (i + 1))) = (allT (l.take i) ++ x.l.take k) ++ ([t] ++ (x.l.drop (k + 1) ++ allT (l.drop (i + 1)))) := by simp
    rw [e, List.map_append] at h3
    have := (List.nodup_append.1 h3).2.2
    intro hm
    exact this _ hm t.stamp (by simp) rfl
section
variable {l : List Stripe} {i : Nat} {x x' : Stripe}
theorem stripesN_set (hx : l[i]? = some x) (h : stripesN l) (hh : -1 ≤ x'.held ∧ x'.held ≤ 4) (ht : ∀ t ∈ x'.l, trailOk t ∧ stripe t.id l.length = i) (hp : x'.l.Pairwise idLt) (hn : ((allT (l.set i x')).map (·.stamp)).Nodup) : stripesN (l.set i x') := by
  obtain ⟨h1, h2, h3⟩ := h
  refine ⟨by simpa using h1, fun j y hy => ?_, hn⟩
  rw [List.length_set]
  rw [List.getElem?_set] at hy
  split at hy
  · rename_i e
    split at hy
    · cases hy; subst e; exact ⟨hh, ht, hp⟩
    · cases hy
  · exact h2 j y hy
theorem stripe_get (h : 1 ≤ (l.length : Int)) (id : Int) : ∃ y, l[(stripe id l.length).toNat]? = some y := by
  have := stripe_b (t := id) h
  exact ⟨l[(stripe id l.length).toNat]'(by omega), List.getElem?_eq_getElem _⟩
/-! ### Locks -/
theorem lockS_s {tr v : Int} {y : Stripe} (h : l[(stripe tr l.length).toNat]? = some y) : lockS l tr v = l.set (stripe tr l.length).toNat { y with held := v } := upd_s h
theorem lockS_len {tr v : Int} : (lockS l tr v).length = l.length := upd_len
theorem allT_lock {tr v : Int} : allT (lockS l tr v) = allT l := by
  cases hy : l[(stripe tr l.length).toNat]? with
  | none => unfold lockS upd; rw [hy]
  | some y => rw [lockS_s hy, allT_set hy, ← allT_at hy]
theorem held_lock {tr v : Int} : held (lockS l tr v) = held l := by unfold held; rw [allT_lock]
theorem stripesN_lock {tr v : Int} (h : stripesN l) (hv : -1 ≤ v ∧ v ≤ 4) : stripesN (lockS l tr v) := by
  obtain ⟨y, hy⟩ := stripe_get h.1.1 tr
  obtain ⟨a1, a2, a3⟩ := h.2.1 _ _ hy
  rw [lockS_s hy]
  refine stripesN_set hy h hv a2 a3 ?_
  rw [← lockS_s hy, allT_lock]
  exact h.2.2
theorem lockS_get {tr v : Int} {j : Nat} {s : Stripe} (h1 : 1 ≤ (l.length : Int)) (hs : (lockS l tr v)[j]? = some s) : ∃ y, l[j]? = some y ∧ s.l = y.l ∧ ((j : Int) = stripe tr l.length → s.held = v) ∧ ((j : Int) ≠ stripe tr l.length → s.held = y.held) := by
  obtain ⟨y, hy⟩ := stripe_get h1 tr
  have hb := stripe_b (t := tr) h1
  rw [lockS_s hy, List.getElem?_set] at hs
  split at hs
  · rename_i e
    split at hs
    · cases hs; subst e; exact ⟨y, hy, rfl, fun _ => rfl, fun q => absurd (by omega) q⟩
    · cases hs
  · rename_i e
    exact ⟨s, hs, rfl, fun q => absurd (by omega) e, fun _ => rfl⟩
/-! ### A trail that is found -/
theorem sumI_perm {α : Type} {f : α → Int} {a b : List α} (p : a.Perm b) : sumI f a = sumI f b := by
  induction p with
  | nil => rfl
  | cons x _ ih => simp only [sumI, ih]
  | swap x y l => simp only [sumI]; omega
  | trans _ _ ih1 ih2 => exact ih1.trans ih2
theorem idx_some {α : Type} {p : α → Bool} {xs : List α} (h : ¬ idx p xs < 0) : ∃ (j : Nat) (t : α), idx p xs = (j : Int) ∧ xs[j]? = some t ∧ p t = true ∧ ∀ k y, k < j → xs[k]? = some y → p y = false := by
  unfold idx at h ⊢
  split at h
  · rename_i hl
    refine ⟨xs.findIdx p, xs[xs.findIdx p], by rw [if_pos hl], List.getElem?_eq_getElem hl, List.findIdx_getElem, fun k y hk hy => ?_⟩
    obtain ⟨hk', rfl⟩ := List.getElem?_eq_some_iff.1 hy
    exact List.not_of_lt_findIdx hk
  · omega
theorem idx_none {α : Type} {p : α → Bool} {xs : List α} (h : idx p xs < 0) : ∀ y ∈ xs, p y = false := by
  unfold idx at h
  split at h
  · omega
  · rename_i hl
    have : xs.findIdx p = xs.length := by have := List.findIdx_le_length (xs := xs) (p := p); omega
    rw [List.findIdx_eq_length] at this
    exact this
theorem findO_some {id : Int} {o : Trail} (h : findO l id = some o) : ∃ (y : Stripe) (j : Nat), l[(stripe id l.length).toNat]? = some y ∧ y.l[j]? = some o ∧ idx (isId id) y.l = (j : Int) ∧ o.id = id := by
  unfold findO at h
  cases hy : l[(stripe id l.length).toNat]? with
  | none => rw [hy] at h; cases h
  | some y =>
    rw [hy] at h
    simp only [inStripe] at h
    split at h
    · cases h
    · rename_i hn
      obtain ⟨j, t, hj, ht, hp, -⟩ := idx_some hn
      rw [hj, Int.toNat_natCast, ht] at h
      cases h
      exact ⟨y, j, rfl, ht, hj, by simpa [isId] using hp⟩
theorem findO_none {id : Int} (h : findO l id = none) (y : Stripe) (hy : l[(stripe id l.length).toNat]? = some y) : idx (isId id) y.l < 0 := by
  unfold findO at h
  rw [hy] at h
  simp only [inStripe] at h
  split at h
  · assumption
  · rename_i hn
    obtain ⟨j, t, hj, ht, -, -⟩ := idx_some hn
    rw [hj, Int.toNat_natCast, ht] at h
    cases h
theorem findO_in {id : Int} {o : Trail} (h : findO l id = some o) : o ∈ allT l ∧ o.id = id := by
  obtain ⟨y, j, hy, hj, -, he⟩ := findO_some h
  exact ⟨mem_allTi.2 ⟨_, y, hy, List.mem_of_getElem? hj⟩, he⟩
theorem pw_inj {xs : List Trail} (h : xs.Pairwise idLt) {i j : Nat} {a b : Trail} (ha : xs[i]? = some a) (hb : xs[j]? = some b) (e : a.id = b.id) : i = j := by
  rw [List.pairwise_iff_getElem] at h
  obtain ⟨hi, rfl⟩ := List.getElem?_eq_some_iff.1 ha
  obtain ⟨hj, rfl⟩ := List.getElem?_eq_some_iff.1 hb
  rcases Nat.lt_trichotomy i j with q | q | q
  · have := h i j hi hj q; unfold idLt at this; omega
  · exact q
  · have := h j i hj hi q; unfold idLt at this; omega
theorem findO_of (h : stripesN l) {o : Trail} (ho : o ∈ allT l) : findO l o.id = some o := by
  obtain ⟨i, y, hy, hoy⟩ := mem_allTi.1 ho
  obtain ⟨-, a2, a3⟩ := h.2.1 i y hy
  have hi := (a2 o hoy).2
  have hy' : l[(stripe o.id l.length).toNat]? = some y := by rw [hi]; simpa using hy
  unfold findO
  rw [hy']
  simp only [inStripe]
  obtain ⟨k, hk⟩ := List.mem_iff_getElem?.1 hoy
  split
  · rename_i hn
    have := idx_none hn o hoy
    simp [isId] at this
  · rename_i hn
    obtain ⟨j, t, hj, ht, hp, -⟩ := idx_some hn
    have e : j = k := pw_inj a3 ht hk (by simpa [isId] using hp)
    subst e
    rw [hj, Int.toNat_natCast, ht]
    rw [hk] at ht
    cases ht; rfl
theorem findB_iff (h : stripesN l) {id : Int} : findB l id = true ↔ ∃ o ∈ allT l, o.id = id := by
  unfold findB
  constructor
  · intro q
    obtain ⟨o, ho⟩ := Option.isSome_iff_exists.1 q
    exact ⟨o, findO_in ho⟩
  · rintro ⟨o, ho, rfl⟩
    rw [findO_of h ho]; rfl
/-! ### A trail is dropped -/
theorem drop_at {id : Int} {o : Trail} (h : findO l id = some o) : ∃ (y : Stripe) (j : Nat), l[(stripe id l.length).toNat]? = some y ∧ y.l[j]? = some o ∧ dropT l id = l.set (stripe id l.length).toNat { y with l := y.l.eraseIdx j } := by
  obtain ⟨y, j, hy, hj, hi, -⟩ := findO_some h
  exact ⟨y, j, hy, hj, by rw [drop_yes hy (by omega), hi, Int.toNat_natCast]⟩
theorem drop_split {id : Int} {o : Trail} (h : findO l id = some o) : ∃ A B, allT l = A ++ o :: B ∧ allT (dropT l id) = A ++ B := by
  obtain ⟨y, j, hy, hj, hd⟩ := drop_at h
  refine ⟨allT (l.take (stripe id l.length).toNat) ++ y.l.take j, y.l.drop (j + 1) ++ allT (l.drop ((stripe id l.length).toNat + 1)), ?_, ?_⟩
  · rw [allT_at hy]
    conv => lhs; rw [get_split hj]
    simp
  · rw [hd, allT_set hy, erase_split (List.getElem?_eq_some_iff.1 hj).1]
    simp
theorem drop_len {id : Int} : (dropT l id).length = l.length := by
  unfold dropT
  split
  · rfl
  · split <;> simp
theorem held_drop {id : Int} {o : Trail} (h : findO l id = some o) : held l = trailBytes o + held (dropT l id) := by
  obtain ⟨A, B, e1, e2⟩ := drop_split h
  unfold held
  rw [e1, e2, sumI_app, sumI_app]
  simp only [sumI]
  omega
theorem drop_get {id : Int} {o : Trail} (h : findO l id = some o) {j : Nat} {s : Stripe} (hs : (dropT l id)[j]? = some s) : ∃ y, l[j]? = some y ∧ s.held = y.held ∧ s.l.Sublist y.l := by
  obtain ⟨y, k, hy, hk, hd⟩ := drop_at h
  rw [hd, List.getElem?_set] at hs
  split at hs
  · rename_i e
    split at hs
    · cases hs; subst e; exact ⟨y, hy, rfl, List.eraseIdx_sublist _ _⟩
    · cases hs
  · exact ⟨s, hs, rfl, List.Sublist.refl _⟩
theorem stripesN_drop (hl : stripesN l) {id : Int} {o : Trail} (h : findO l id = some o) : stripesN (dropT l id) := by
  obtain ⟨A, B, e1, e2⟩ := drop_split h
  refine ⟨by rw [drop_len]; exact hl.1, fun j s hs => ?_, ?_⟩
  · obtain ⟨y, hy, g1, g2⟩ := drop_get h hs
    obtain ⟨a1, a2, a3⟩ := hl.2.1 j y hy
    rw [drop_len]
    exact ⟨by rw [g1]; exact a1, fun t ht => a2 t (g2.subset ht), a3.sublist g2⟩
  · have h3 := hl.2.2
    rw [e1] at h3
    rw [e2]
    exact h3.sublist ((List.Sublist.append_left (List.sublist_cons_self o B) A).map _)
/-! ### A thing is added -/
theorem insert_pw {xs : List Trail} {t : Trail} (h : xs.Pairwise idLt) (hn : ∀ y ∈ xs, y.id ≠ t.id) : (xs.take (xs.findIdx (gtT t.id)) ++ t :: xs.drop (xs.findIdx (gtT t.id))).Pairwise idLt := by
  obtain ⟨p, hp⟩ : ∃ p, p = xs.findIdx (gtT t.id) := ⟨_, rfl⟩
  rw [← hp]
  have hsp : xs.take p ++ xs.drop p = xs := List.take_append_drop p xs
  have h' := h
  rw [← hsp, List.pairwise_append] at h'
  obtain ⟨h1, h2, h3⟩ := h'
  have hlo : ∀ y ∈ xs.take p, y.id < t.id := by
    intro y hy
    obtain ⟨k, hk⟩ := List.mem_iff_getElem?.1 hy
    rw [List.getElem?_take] at hk
    split at hk
    · rename_i hkp
      obtain ⟨hk', rfl⟩ := List.getElem?_eq_some_iff.1 hk
      have := List.not_of_lt_findIdx (p := gtT t.id) (xs := xs) (i := k) (by omega)
      have h4 := hn xs[k] (List.getElem_mem hk')
      simp [gtT] at this
      omega
    · cases hk
  have hhi : ∀ y ∈ xs.drop p, t.id < y.id := by
    intro y hy
    by_cases hpl : p < xs.length
    · have h0 : gtT t.id (xs[p]) = true := by subst hp; exact List.findIdx_getElem
      have h0 : t.id < (xs[p]).id := by simpa [gtT] using h0
      have hd : xs.drop p = xs[p] :: xs.drop (p + 1) := List.drop_eq_getElem_cons hpl
      rw [hd] at hy h2
      rcases List.mem_cons.1 hy with e | e
      · rw [e]; exact h0
      · have := (List.pairwise_cons.1 h2).1 y e
        unfold idLt at this
        omega
    · rw [List.drop_eq_nil_of_le (by omega)] at hy; cases hy
  rw [List.pairwise_append]
  refine ⟨h1, List.pairwise_cons.2 ⟨hhi, h2⟩, fun a ha b hb => ?_⟩
  rcases List.mem_cons.1 hb with e | e
  · rw [e]; exact hlo a ha
  · exact h3 a ha b e
theorem addTo_new {xs : List Trail} {s : Span} {st nw : Int} (hn : idx (isId s.trace) xs < 0) (h : xs.Pairwise idLt) : (addTo xs s st nw).Pairwise idLt ∧ (addTo xs s st nw).Perm (⟨s.trace, st, nw, [s]⟩ :: xs) := by
  rw [addTo_no hn]
  refine ⟨insert_pw (t := ⟨s.trace, st, nw, [s]⟩) h fun y hy e => ?_, ?_⟩
  · have := idx_none hn y hy
    simp [isId] at this
    exact this e
  · refine List.perm_middle.trans (List.Perm.cons _ ?_)
    rw [List.take_append_drop]
theorem addTo_old {xs : List Trail} {s : Span} {st nw : Int} {j : Nat} {t : Trail} (hi : idx (isId s.trace) xs = (j : Int)) (ht : xs[j]? = some t) : addTo xs s st nw = xs.take j ++ { t with spans := t.spans ++ [s] } :: xs.drop (j + 1) := by
  rw [addTo_yes hi ht, set_split ht]
end
end Go.Proofs.Ytpcgbddmdipfbaa
