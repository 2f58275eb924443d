/- Stable sorts: the whole. -/
import Derived.Test.YtpcgbddmdipfbaaAb49
set_option linter.unusedSimpArgs false
set_option linter.unusedVariables false
namespace Go.Ab
open Go.RowKit

section
variable {α : Type} [Cel α] [SEl α] {P : Program} {n : Nat} {key : α → Int} {U0 : α → Prop}
def InsC (α : Type) [Cel α] [SEl α] (P : Program) (key : α → Int) (U0 : α → Prop) (ci : FuncId) (c : AV) : Prop := ∀ (n : Nat) (h : AH) (v : AV) (A U B : List α) (F : List Nat), SlRep h v (A ++ (U ++ B)) F → Own n h F → CmpOk P key U0 h F c → (∀ x ∈ U, U0 x) →
  MutC P ci [v, .int .i64 (A.length : Int), .int .i64 ((A.length + U.length : Nat) : Int), c] n h v F (A ++ (ssort key U ++ B))
theorem stb_spec {ci cm : FuncId} {c : AV} (hi : InsC α P key U0 ci c) (hm : ∀ N, SymC α P key U0 cm c N) {h : AH} {v : AV} {xs : List α} {F : List Nat} (r : SlRep h v xs F) (o : Own n h F) (hc : CmpOk P key U0 h F c) (hu : ∀ x ∈ xs, U0 x) :
    (pStb ci cm v (.int .i64 (xs.length : Int)) c).awp P h (MutP n h v F (ssort key xs)) := by
  have hsm := r.small
  unfold pStb
  refine aw_loop (fun N vs h1 => ∃ (q : Nat) (Z : List α), vs = [.int .i64 (Z.length : Int), .int .i64 ((Z.length + 20 : Nat) : Int)] ∧ Z.length = q * 20 ∧ Z.length ≤ xs.length ∧ N = xs.length - Z.length ∧ Runs key 20 Z ∧ Stab key (xs.take Z.length) Z ∧ MutR n h v F (Z ++ xs.drop Z.length) h1) xs.length ⟨0, [], rfl, rfl, Nat.zero_le _, rfl, Runs.one (by decide) (by simp) List.Pairwise.nil, Stab.refl, MutR.refl r o⟩ ?_
  rintro N vs h1 ⟨q, Z, rfl, hq, hZ, rfl, runs, stab, k1, F1, p1, r1, o1⟩
  simp only [g0, g1]
  refine aw_leq (fun hle => aw_ite_t ?_) (fun hgt => aw_ite_f ?_)
  · obtain ⟨U, hU⟩ : ∃ U, U = (xs.drop Z.length).take 20 := ⟨_, rfl⟩
    have lU : U.length = 20 := by rw [hU]; simp; omega
    have eU : xs.drop Z.length = U ++ xs.drop (Z.length + 20) := by rw [hU, ← List.drop_drop, List.take_append_drop]
    rw [eU] at r1
    have := hi n h1 v Z U (xs.drop (Z.length + 20)) F1 r1 o1 (hc.kp k1 p1) (fun x hx => hu x (by rw [hU] at hx; exact List.mem_of_mem_drop (List.mem_of_mem_take hx)))
    rw [lU] at this
    refine aw_call this (fun u h2 m2 => ?_)
    refine aw_addN (Z.length + 20 + 20) (by omega) (by omega) (aw_leaf (aw_nexts ⟨xs.length - (Z.length + 20), by omega, q + 1, Z ++ ssort key U, ?_, ?_, ?_, ?_, ?_, ?_, ?_⟩))
    · simp only [List.length_append, ssort_len, lU]
    · simp only [List.length_append, ssort_len, lU]; omega
    · simp only [List.length_append, ssort_len, lU]; omega
    · simp only [List.length_append, ssort_len, lU]
    · exact Runs.app hq runs (Runs.one (by decide) (by rw [ssort_len, lU]; exact Nat.le_refl _) ssort_srt)
    · simp only [List.length_append, ssort_len, lU]
      have : xs.take (Z.length + 20) = xs.take Z.length ++ U := by rw [hU, List.take_add]
      rw [this]; exact stab.app ssort_stab
    · simp only [List.length_append, ssort_len, lU]
      have m3 := MutR.trans k1 p1 m2
      simpa only [List.append_assoc] using m3
  · refine aw_leaf (aw_ends (by decide) (aw_tsel_ne (by decide) (aw_tsel_eq ?_)))
    simp only [g0]
    have this := hi n h1 v Z (xs.drop Z.length) [] F1 (by simpa using r1) o1 (hc.kp k1 p1) (fun x hx => hu x (List.mem_of_mem_drop hx))
    have e1 : Z.length + (xs.drop Z.length).length = xs.length := by simp; omega
    rw [e1, List.append_nil] at this
    refine aw_call this (fun u h2 m2 => ?_)
    have m2 := MutR.trans k1 p1 m2
    have run2 : Runs key 20 (Z ++ ssort key (xs.drop Z.length)) := Runs.app hq runs (Runs.one (by decide) (by rw [ssort_len]; simp; omega) ssort_srt)
    have stab2 : Stab key xs (Z ++ ssort key (xs.drop Z.length)) := by
      have := stab.app (ssort_stab (key := key) (xs := xs.drop Z.length))
      rwa [List.take_append_drop] at this
    have len2 : (Z ++ ssort key (xs.drop Z.length)).length = xs.length := by rw [List.length_append, ssort_len]; exact e1
    refine aw_loop (fun N vs h3 => ∃ (bs : Nat) (ys : List α) (w1 w2 : AV), vs = [.int .i64 (bs : Int), w1, w2] ∧ 0 < bs ∧ bs ≤ 562949953421312 ∧ N = xs.length - bs ∧ Runs key bs ys ∧ Stab key xs ys ∧ ys.length = xs.length ∧ MutR n h v F ys h3) (xs.length - 20) ⟨20, _, _, _, rfl, by decide, by decide, rfl, run2, stab2, len2, m2⟩ ?_
    rintro N vs h3 ⟨bs, ys, w1, w2, rfl, hb0, hb1, rfl, run3, stab3, len3, m3⟩
    clear run2 stab2 len2 m2 r1 o1 this
    simp only [g0, g1]
    refine aw_lss (fun hlt => aw_ite_t ?_) (fun hge => aw_ite_f ?_)
    · refine aw_mulN (2 * bs) (by omega) (by omega) ?_
      refine aw_loop (fun N vs h4 => ∃ (q : Nat) (Z R : List α), vs = [.int .i64 (Z.length : Int), .int .i64 ((Z.length + 2 * bs : Nat) : Int)] ∧ Z.length = q * (2 * bs) ∧ Z.length + R.length = xs.length ∧ N = R.length ∧ Runs key (2 * bs) Z ∧ Runs key bs R ∧ Stab key xs (Z ++ R) ∧ MutR n h v F (Z ++ R) h4) xs.length ⟨0, [], ys, by simp, by simp, by simpa using len3, len3.symm, Runs.one (by omega) (by simp) List.Pairwise.nil, run3, stab3, m3⟩ ?_
      rintro N vs h4 ⟨q, Z, R, rfl, hq, hlen, rfl, rz, rr, st4, k4, F4, p4, r4, o4⟩
      have uR : ∀ x ∈ R, U0 x := fun x hx => hu x ((st4.mem x).1 (by simp [hx]))
      simp only [g0, g1]
      refine aw_leq (fun hle => aw_ite_t ?_) (fun hgt => aw_ite_f ?_)
      · refine aw_addN (Z.length + bs) (by omega) (by omega) ?_
        obtain ⟨U, hU⟩ : ∃ U, U = R.take bs := ⟨_, rfl⟩
        obtain ⟨V, hV⟩ : ∃ V, V = (R.drop bs).take bs := ⟨_, rfl⟩
        have lU : U.length = bs := by rw [hU]; simp; omega
        have lV : V.length = bs := by rw [hV]; simp; omega
        have eR : R = U ++ (V ++ (R.drop bs).drop bs) := by rw [hU, hV, List.take_append_drop, List.take_append_drop]
        have eR2 : Z ++ R = Z ++ (U ++ (V ++ (R.drop bs).drop bs)) := by rw [← eR]
        rw [eR2] at r4
        have this := hm _ n h4 v Z U V ((R.drop bs).drop bs) F4 (Nat.le_refl _) r4 o4 (hc.kp k4 p4) (fun x hx => uR x (by rw [eR]; simp [hx])) (fun x hx => uR x (by rw [eR]; simp [hx])) (by rw [hU]; exact rr.head) (by rw [hV]; exact rr.tail.head) (fun e => by rw [e] at lU; simp at lU; omega) (fun e => by rw [e] at lV; simp at lV; omega)
        rw [lU, lV] at this
        have i1 : Z.length + bs + bs = Z.length + 2 * bs := by omega
        rw [i1] at this
        refine aw_call this (fun u h5 m5 => ?_)
        refine aw_mulN (2 * bs) (by omega) (by omega) (aw_addN (Z.length + 2 * bs + 2 * bs) (by omega) (by omega) (aw_leaf (aw_nexts ⟨((R.drop bs).drop bs).length, by simp; omega, q + 1, Z ++ ssort key (U ++ V), (R.drop bs).drop bs, ?_, ?_, ?_, rfl, ?_, rr.tail.tail, ?_, ?_⟩)))
        · simp only [List.length_append, ssort_len, lU, lV]
          congr 3
          · congr 1; omega
          · congr 2; omega
        · simp only [List.length_append, ssort_len, lU, lV, Nat.add_mul]; omega
        · simp only [List.length_append, ssort_len, lU, lV, List.length_drop]; omega
        · exact Runs.app hq rz (Runs.one (by omega) (by rw [ssort_len, List.length_append, lU, lV]; omega) ssort_srt)
        · refine st4.trans ?_
          rw [eR2]
          have := (Stab.refl (key := key) (xs := Z)).app ((ssort_stab (key := key) (xs := U ++ V)).app (Stab.refl (xs := (R.drop bs).drop bs)))
          simpa only [List.append_assoc] using this
        · have := MutR.trans k4 p4 m5
          simpa only [List.append_assoc] using this
      · refine aw_leaf (aw_ends (by decide) (aw_tsel_ne (by decide) (aw_tsel_eq ?_)))
        simp only [g0, g1]
        refine aw_addN (Z.length + bs) (by omega) (by omega) ?_
        have fin : ∀ (W : List α) (h5 : AH) (a b : AV), W.length = R.length → Srt key W → Stab key R W → MutR n h v F (Z ++ W) h5 → ∃ n', n' < xs.length - bs ∧ ∃ (bs' : Nat) (ys : List α) (w1 w2 : AV), [AV.int .i64 ((bs * 2 : Nat) : Int), a, b] = [.int .i64 (bs' : Int), w1, w2] ∧ 0 < bs' ∧ bs' ≤ 562949953421312 ∧ n' = xs.length - bs' ∧ Runs key bs' ys ∧ Stab key xs ys ∧ ys.length = xs.length ∧ MutR n h v F ys h5 := fun W h5 a b lW sW stW m5 => by
          refine ⟨xs.length - bs * 2, by omega, bs * 2, Z ++ W, a, b, rfl, by omega, by omega, rfl, ?_, st4.trans (Stab.refl.app stW), by rw [List.length_append]; omega, m5⟩
          rw [Nat.mul_comm]
          exact Runs.app hq rz (Runs.one (by omega) (by omega) sW)
        refine aw_lss (fun hlt2 => aw_scope (aw_ite_t ?_)) (fun hge2 => aw_scope (aw_ite_f ?_))
        · obtain ⟨U, hU⟩ : ∃ U, U = R.take bs := ⟨_, rfl⟩
          obtain ⟨V, hV⟩ : ∃ V, V = R.drop bs := ⟨_, rfl⟩
          have lU : U.length = bs := by rw [hU]; simp; omega
          have lV : V.length = R.length - bs := by rw [hV]; simp
          have eR : R = U ++ V := by rw [hU, hV, List.take_append_drop]
          have eR2 : Z ++ R = Z ++ (U ++ (V ++ [])) := by rw [eR]; simp
          rw [eR2] at r4
          have this := hm _ n h4 v Z U V [] F4 (Nat.le_refl _) r4 o4 (hc.kp k4 p4) (fun x hx => uR x (by rw [eR]; simp [hx])) (fun x hx => uR x (by rw [eR]; simp [hx])) (by rw [hU]; exact rr.head) (by rw [hV]; exact rr.tail.all (by rw [← hV, lV]; omega)) (fun e => by rw [e] at lU; simp at lU; omega) (fun e => by rw [e] at lV; simp at lV; omega)
          rw [lU, lV] at this
          have i1 : Z.length + bs + (R.length - bs) = xs.length := by omega
          rw [i1] at this
          refine aw_call this (fun u h5 m5 => aw_leaf (aw_nexts (aw_mulN (bs * 2) (by omega) (by omega) (aw_leaf (aw_nexts ?_)))))
          rw [List.append_nil] at m5
          exact fin _ _ _ _ (by rw [ssort_len, ← eR]) ssort_srt (by rw [← eR]; exact ssort_stab) (MutR.trans k4 p4 m5)
        · exact aw_leaf (aw_nexts (aw_mulN (bs * 2) (by omega) (by omega) (aw_leaf (aw_nexts (fin R _ _ _ rfl (rr.all (by omega)) Stab.refl ⟨k4, F4, p4, r4, o4⟩)))))
    · refine aw_leaf (aw_ends (by decide) (aw_tsel_ne (by decide) (aw_tsel_eq (aw_fin0 ⟨rfl, _, rfl, ?_⟩))))
      rw [← ssort_uniq (run3.all (by omega)) stab3]; exact m3
end
end Go.Ab
