/- Stable sorts: merges, and the whole. -/
import Derived.Test.YtpcgbddmdipfbaaAb47
set_option linter.unusedSimpArgs false
set_option linter.unusedVariables false
namespace Go.Ab
open Go.RowKit

theorem get_mid {α : Type} {A U B : List α} {t : Nat} {x : α} (hx : U[t]? = some x) {j : Nat} (hj : j = A.length + t) : (A ++ (U ++ B))[j]? = some x := by
  have ht := (List.getElem?_eq_some_iff.1 hx).1
  subst hj
  rw [List.getElem?_append_right (by omega), show A.length + t - A.length = t by omega, List.getElem?_append_left ht]; exact hx

section
variable {α : Type} [Cel α] [SEl α] {P : Program} {n : Nat} {key : α → Int} {U0 : α → Prop}
def RotC (α : Type) [Cel α] (P : Program) (cr : FuncId) (c : AV) : Prop := ∀ (n : Nat) (h : AH) (v : AV) (A U V B : List α) (F : List Nat), SlRep h v (A ++ (U ++ (V ++ B))) F → Own n h F → U ≠ [] → V ≠ [] →
  MutC P cr [v, .int .i64 (A.length : Int), .int .i64 ((A.length + U.length : Nat) : Int), .int .i64 ((A.length + U.length + V.length : Nat) : Int), c] n h v F (A ++ ((V ++ U) ++ B))
def SymC (α : Type) [Cel α] [SEl α] (P : Program) (key : α → Int) (U0 : α → Prop) (cm : FuncId) (c : AV) (N : Nat) : Prop := ∀ (n : Nat) (h : AH) (v : AV) (A U V B : List α) (F : List Nat), U.length + V.length ≤ N → SlRep h v (A ++ (U ++ (V ++ B))) F → Own n h F → CmpOk P key U0 h F c → (∀ x ∈ U, U0 x) → (∀ x ∈ V, U0 x) → Srt key U → Srt key V → U ≠ [] → V ≠ [] →
  MutC P cm [v, .int .i64 (A.length : Int), .int .i64 ((A.length + U.length : Nat) : Int), .int .i64 ((A.length + U.length + V.length : Nat) : Int), c] n h v F (A ++ (ssort key (U ++ V) ++ B))

theorem sym1_spec {cm cr : FuncId} {c : AV} {h : AH} {v : AV} {A V B : List α} {u : α} {F : List Nat} (r : SlRep h v (A ++ ([u] ++ (V ++ B))) F) (o : Own n h F) (hc : CmpOk P key U0 h F c) (hu : U0 u) (hv : ∀ x ∈ V, U0 x) (sv : Srt key V) :
    (pSym (Cel.w α) (SEl.lo α) cr cm v (.int .i64 (A.length : Int)) (.int .i64 ((A.length + 1 : Nat) : Int)) (.int .i64 ((A.length + 1 + V.length : Nat) : Int)) c).awp P h (MutP n h v F (A ++ (ssort key ([u] ++ V) ++ B))) := by
  have hsm := r.small
  simp only [List.length_append, List.length_singleton] at hsm
  obtain ⟨f, caps, rfl, hc⟩ := hc
  unfold pSym
  refine aw_subN 1 (by omega) (by omega) (aw_eql (fun _ => aw_ite_t ?_) (fun hn => absurd rfl hn))
  have hu1 : (A ++ ([u] ++ (V ++ B)))[A.length]? = some u := get_mid (t := 0) rfl rfl
  refine aw_loop (fun d vs h1 => ∃ i j : Nat, vs = [.int .i64 ((A.length + 1 + i : Nat) : Int), .int .i64 ((A.length + 1 + j : Nat) : Int)] ∧ i ≤ j ∧ j ≤ V.length ∧ d = j - i ∧ h1 = h ∧ (∀ (t : Nat) (y : α), t < i → V[t]? = some y → key y < key u) ∧ (∀ (t : Nat) (y : α), j ≤ t → V[t]? = some y → key u ≤ key y)) V.length
    ⟨0, V.length, rfl, Nat.zero_le _, Nat.le_refl _, rfl, rfl, fun t y ht _ => by omega, fun t y ht hy => by have := (List.getElem?_eq_some_iff.1 hy).1; omega⟩ ?_
  rintro d vs h1 ⟨i, j, rfl, hij, hj, rfl, rfl, hl, hr⟩
  simp only [g0, g1]
  refine aw_lss (fun hlt => aw_ite_t ?_) (fun hge => aw_ite_f ?_)
  · refine aw_addN (A.length + 1 + i + (A.length + 1 + j)) (by omega) (by omega) (aw_half (by omega) ?_)
    obtain ⟨m, hm⟩ : ∃ m, m = (i + j) / 2 := ⟨_, rfl⟩
    have e1 : (A.length + 1 + i + (A.length + 1 + j)) / 2 = A.length + 1 + m := by omega
    rw [e1]
    obtain ⟨y, hy⟩ : ∃ y, V[m]? = some y := ⟨_, List.getElem?_eq_getElem (by omega)⟩
    have hy2 : (A ++ ([u] ++ (V ++ B)))[A.length + 1 + m]? = some y := by
      rw [← List.append_assoc]; exact get_mid hy (by simp)
    refine aw_idx r hy2 rfl fun b1 o1 cy Fy ay ry _ => SEl.ld ay ry ?_
    refine aw_idx r hu1 rfl fun b2 o2 cu Fu au ru _ => SEl.ld au ru ?_
    refine aw_rcallv (hc _ (Kp.refl _ _) y u cy cu Fy Fu (hv y (List.mem_of_getElem? hy)) hu ry ru) ?_
    refine aw_lss (fun hneg => ?_) (fun hnn => ?_)
    · have hk := cmpI_lt.1 hneg
      refine aw_scope (aw_ite_t (aw_addN (A.length + 1 + (m + 1)) (by omega) (by omega) (aw_leaf (aw_nexts (aw_leaf (aw_nexts ⟨j - (m + 1), by omega, m + 1, j, rfl, by omega, hj, rfl, rfl, fun t z ht hz => ?_, hr⟩))))))
      have := sv.at_ (show t ≤ m by omega) hz hy
      omega
    · have hk : ¬ key y < key u := fun hlt => hnn (cmpI_lt.2 hlt)
      refine aw_scope (aw_ite_f (aw_leaf (aw_nexts (aw_leaf (aw_nexts ⟨m - i, by omega, i, m, rfl, by omega, by omega, rfl, rfl, hl, fun t z ht hz => ?_⟩)))))
      have := sv.at_ ht hy hz
      omega
  · have : j = i := by omega
    subst this
    refine aw_leaf (aw_ends (by decide) (aw_tsel_ne (by decide) (aw_tsel_eq ?_)))
    simp only [g0]
    have eV : A ++ ([u] ++ (V ++ B)) = A ++ u :: (V.take j ++ V.drop j ++ B) := by rw [List.take_append_drop]; rfl
    have hfin : A ++ (ssort key ([u] ++ V) ++ B) = mvR (A ++ ([u] ++ (V ++ B))) A.length j := by
      rw [eV, mvR_eq j (V.take j) (V.drop j) (by simp; omega)]
      have := ssort_first (key := key) (u := u) (xs := V.take j) (ys := V.drop j) (by rw [List.take_append_drop]; exact sv) (fun x hx => by
        obtain ⟨t, ht⟩ := List.mem_iff_getElem?.1 hx
        rw [List.getElem?_take] at ht
        split at ht
        · rename_i hlt; exact hl t x hlt ht
        · cases ht) (fun x hx => by
        obtain ⟨t, ht⟩ := List.mem_iff_getElem?.1 hx
        rw [List.getElem?_drop] at ht
        exact hr _ x (by omega) ht)
      rw [List.take_append_drop] at this
      show A ++ (ssort key (u :: V) ++ B) = _
      rw [this]; simp
    rw [hfin]
    refine aw_upto j (fun q vs h2 => vs = [.int .i64 ((A.length + q : Nat) : Int)] ∧ q ≤ j ∧ MutR n h1 v F (mvR (A ++ ([u] ++ (V ++ B))) A.length q) h2) ⟨rfl, Nat.zero_le _, MutR.refl r o⟩ ?_
    rintro q vs h2 _ ⟨rfl, hq, k2, F2, p2, r2, o2⟩
    have hlen : ∀ q, (mvR (A ++ ([u] ++ (V ++ B))) A.length q).length = A.length + (1 + (V.length + B.length)) := by
      intro q
      induction q with
      | zero => simp [mvR]; omega
      | succ q ih => simp only [mvR, swp_len, ih]
    simp only [g0]
    refine aw_subN (A.length + j) (by omega) (by omega) (aw_lss (fun hlt => aw_ite_t ?_) (fun hge => aw_ite_f ?_))
    · have hq1 := hlen q
      obtain ⟨x, hx⟩ : ∃ x, (mvR (A ++ ([u] ++ (V ++ B))) A.length q)[A.length + q]? = some x := ⟨_, List.getElem?_eq_getElem (by omega)⟩
      obtain ⟨y, hy⟩ : ∃ y, (mvR (A ++ ([u] ++ (V ++ B))) A.length q)[A.length + q + 1]? = some y := ⟨_, List.getElem?_eq_getElem (by omega)⟩
      obtain ⟨c1, c2, g1', g2', g3'⟩ := aw_two (P := P) r2 o2 hx hy (by omega)
      refine aw_addN (A.length + q + 1) (by omega) (by omega) (aw_addN (A.length + q + 1) (by omega) (by omega) (g2' _ _ (g1' _ _ (g3' _ _ fun h' F' k' p' r' o' => ?_))))
      exact aw_addN (A.length + (q + 1)) (by omega) (by omega) (aw_leaf (aw_nexts ⟨by omega, rfl, by omega, MutR.trans k2 p2 ⟨k', F', p', r', o'⟩⟩))
    · have : q = j := by omega
      subst this
      exact aw_leaf (aw_ends (by decide) (aw_tsel_ne (by decide) (aw_tsel_eq (aw_fin0 ⟨rfl, _, rfl, k2, F2, p2, r2, o2⟩))))

theorem sym2_spec {cm cr : FuncId} {c : AV} {h : AH} {v : AV} {A U B : List α} {u : α} {F : List Nat} (r : SlRep h v (A ++ (U ++ ([u] ++ B))) F) (o : Own n h F) (hc : CmpOk P key U0 h F c) (hu : U0 u) (hv : ∀ x ∈ U, U0 x) (sv : Srt key U) (h1U : U.length ≠ 1) :
    (pSym (Cel.w α) (SEl.lo α) cr cm v (.int .i64 (A.length : Int)) (.int .i64 ((A.length + U.length : Nat) : Int)) (.int .i64 ((A.length + U.length + 1 : Nat) : Int)) c).awp P h (MutP n h v F (A ++ (ssort key (U ++ [u]) ++ B))) := by
  have hsm := r.small
  simp only [List.length_append, List.length_singleton] at hsm
  obtain ⟨f, caps, rfl, hc⟩ := hc
  unfold pSym
  refine aw_subN U.length (by omega) (by omega) (aw_eql (fun e => absurd e (by omega)) (fun _ => aw_ite_f ?_))
  refine aw_subN 1 (by omega) (by omega) (aw_eql (fun _ => aw_ite_t ?_) (fun hn => absurd rfl hn))
  have hu1 : (A ++ (U ++ ([u] ++ B)))[A.length + U.length]? = some u := by
    rw [← List.append_assoc]; exact get_mid (t := 0) rfl (by simp)
  refine aw_loop (fun d vs h1 => ∃ i j : Nat, vs = [.int .i64 ((A.length + i : Nat) : Int), .int .i64 ((A.length + j : Nat) : Int)] ∧ i ≤ j ∧ j ≤ U.length ∧ d = j - i ∧ h1 = h ∧ (∀ (t : Nat) (y : α), t < i → U[t]? = some y → key y ≤ key u) ∧ (∀ (t : Nat) (y : α), j ≤ t → U[t]? = some y → key u < key y)) U.length
    ⟨0, U.length, rfl, Nat.zero_le _, Nat.le_refl _, rfl, rfl, fun t y ht _ => by omega, fun t y ht hy => by have := (List.getElem?_eq_some_iff.1 hy).1; omega⟩ ?_
  rintro d vs h1 ⟨i, j, rfl, hij, hj, rfl, rfl, hl, hr⟩
  simp only [g0, g1]
  refine aw_lss (fun hlt => aw_ite_t ?_) (fun hge => aw_ite_f ?_)
  · refine aw_addN (A.length + i + (A.length + j)) (by omega) (by omega) (aw_half (by omega) ?_)
    obtain ⟨m, hm⟩ : ∃ m, m = (i + j) / 2 := ⟨_, rfl⟩
    have e1 : (A.length + i + (A.length + j)) / 2 = A.length + m := by omega
    rw [e1]
    obtain ⟨y, hy⟩ : ∃ y, U[m]? = some y := ⟨_, List.getElem?_eq_getElem (by omega)⟩
    have hy2 : (A ++ (U ++ ([u] ++ B)))[A.length + m]? = some y := get_mid hy rfl
    refine aw_idx r hu1 rfl fun b2 o2 cu Fu au ru _ => SEl.ld au ru ?_
    refine aw_idx r hy2 rfl fun b1 o1 cy Fy ay ry _ => SEl.ld ay ry ?_
    refine aw_rcallv (hc _ (Kp.refl _ _) u y cu cy Fu Fy hu (hv y (List.mem_of_getElem? hy)) ru ry) ?_
    refine aw_lss (fun hneg => ?_) (fun hnn => ?_)
    · have hk := cmpI_lt.1 hneg
      refine aw_not_t (aw_scope (aw_ite_f (aw_leaf (aw_nexts (aw_leaf (aw_nexts ⟨m - i, by omega, i, m, rfl, by omega, by omega, rfl, rfl, hl, fun t z ht hz => ?_⟩))))))
      have := sv.at_ ht hy hz
      omega
    · have hk : ¬ key u < key y := fun hlt => hnn (cmpI_lt.2 hlt)
      refine aw_not_f (aw_scope (aw_ite_t (aw_addN (A.length + (m + 1)) (by omega) (by omega) (aw_leaf (aw_nexts (aw_leaf (aw_nexts ⟨j - (m + 1), by omega, m + 1, j, rfl, by omega, hj, rfl, rfl, fun t z ht hz => ?_, hr⟩)))))))
      have := sv.at_ (show t ≤ m by omega) hz hy
      omega
  · have : j = i := by omega
    subst this
    refine aw_leaf (aw_ends (by decide) (aw_tsel_ne (by decide) (aw_tsel_eq ?_)))
    simp only [g0]
    have eV : A ++ (U ++ ([u] ++ B)) = A ++ (U.take j ++ U.drop j ++ u :: B) := by rw [List.take_append_drop]; rfl
    have hfin : A ++ (ssort key (U ++ [u]) ++ B) = mvL (A ++ (U ++ ([u] ++ B))) (A.length + U.length) (U.length - j) := by
      rw [eV, mvL_eq (U.length - j) (U.take j) (U.drop j) (by simp) (by simp; omega)]
      have := ssort_last (key := key) (u := u) (xs := U.take j) (ys := U.drop j) (by rw [List.take_append_drop]; exact sv) (fun x hx => by
        obtain ⟨t, ht⟩ := List.mem_iff_getElem?.1 hx
        rw [List.getElem?_take] at ht
        split at ht
        · rename_i hlt; exact hl t x hlt ht
        · cases ht) (fun x hx => by
        obtain ⟨t, ht⟩ := List.mem_iff_getElem?.1 hx
        rw [List.getElem?_drop] at ht
        exact hr _ x (by omega) ht)
      rw [List.take_append_drop] at this
      rw [this]; simp
    rw [hfin]
    refine aw_upto (U.length - j) (fun q vs h2 => vs = [.int .i64 ((A.length + U.length - q : Nat) : Int)] ∧ q ≤ U.length - j ∧ MutR n h1 v F (mvL (A ++ (U ++ ([u] ++ B))) (A.length + U.length) q) h2) ⟨rfl, Nat.zero_le _, MutR.refl r o⟩ ?_
    rintro q vs h2 _ ⟨rfl, hq, k2, F2, p2, r2, o2⟩
    have hlen : ∀ q, (mvL (A ++ (U ++ ([u] ++ B))) (A.length + U.length) q).length = A.length + (U.length + (1 + B.length)) := by
      intro q
      induction q with
      | zero => simp [mvL]; omega
      | succ q ih => simp only [mvL, swp_len, ih]
    simp only [g0]
    refine aw_gtr (fun hlt => aw_ite_t ?_) (fun hge => aw_ite_f ?_)
    · have hq1 := hlen q
      obtain ⟨x, hx⟩ : ∃ x, (mvL (A ++ (U ++ ([u] ++ B))) (A.length + U.length) q)[A.length + U.length - q]? = some x := ⟨_, List.getElem?_eq_getElem (by omega)⟩
      obtain ⟨y, hy⟩ : ∃ y, (mvL (A ++ (U ++ ([u] ++ B))) (A.length + U.length) q)[A.length + U.length - q - 1]? = some y := ⟨_, List.getElem?_eq_getElem (by omega)⟩
      obtain ⟨c1, c2, g1', g2', g3'⟩ := aw_two (P := P) r2 o2 hx hy (by omega)
      refine aw_subN (A.length + U.length - q - 1) (by omega) (by omega) (aw_subN (A.length + U.length - q - 1) (by omega) (by omega) (g2' _ _ (g1' _ _ (g3' _ _ fun h' F' k' p' r' o' => ?_))))
      exact aw_subN (A.length + U.length - (q + 1)) (by omega) (by omega) (aw_leaf (aw_nexts ⟨by omega, rfl, by omega, MutR.trans k2 p2 ⟨k', F', p', r', o'⟩⟩))
    · have : q = U.length - j := by omega
      subst this
      exact aw_leaf (aw_ends (by decide) (aw_tsel_ne (by decide) (aw_tsel_eq (aw_fin0 ⟨rfl, _, rfl, k2, F2, p2, r2, o2⟩))))
end
end Go.Ab
