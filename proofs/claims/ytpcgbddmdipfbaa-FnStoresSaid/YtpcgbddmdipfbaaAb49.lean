/- Stable sorts: merges, and the whole. -/
import Derived.Test.YtpcgbddmdipfbaaAb48
set_option linter.unusedSimpArgs false
set_option linter.unusedVariables false
namespace Go.Ab
open Go.RowKit

/-- Two conditions, and what is done where both hold. -/
theorem aw_andscope {P : Program} {h : AH} {Q : Nat → List AV → AH → Prop} {a b c d : Int} {p : Prog} {kn : List AV → Prog} {ka : Nat → List AV → Prog} (R : AH → Prop) (h1 : a < b → c < d → p.awp P h fun t vs h2 => t = 0 ∧ R h2) (h2 : ¬ (a < b ∧ c < d) → R h) (hk : ∀ vs h2, R h2 → (kn vs).awp P h2 Q) :
    (Prog.op (.bin 0 .lss (.int .i64 a) (.int .i64 b)) fun v96 => .gop v96 true (.mv (.int .i64 c)) fun v97 => .gop v96 true (.mv (.int .i64 d)) fun v98 => .gop v96 true (.bin 0 .lss v97 v98) fun v99 => .op (.pick v96 v99 (.bool false)) fun v100 => .scope (.ite v100 p (.leaf 0 [])) kn ka).awp P h Q := by
  refine aw_lss (fun x => aw_gop_tt (aw_mv (aw_gop_tt (aw_mv (aw_gop_tt (aw_lss (fun y => ?_) (fun y => ?_))))))) (fun x => ?_)
  · refine aw_pick_t (aw_scope (aw_ite_t (Prog.awp_mono _ (h1 x y) ?_)))
    rintro t vs h3 ⟨rfl, hR⟩
    exact aw_nexts (hk vs h3 hR)
  · exact aw_pick_t (aw_scope (aw_ite_f (aw_leaf (aw_nexts (hk _ _ (h2 fun g => y g.2))))))
  · iterate 3 refine aw_gop_ft ?_
    exact aw_pick_f (aw_scope (aw_ite_f (aw_leaf (aw_nexts (hk _ _ (h2 fun g => x g.1))))))

section
variable {α : Type} [Cel α] [SEl α] {P : Program} {n : Nat} {key : α → Int} {U0 : α → Prop}
theorem sym_spec {cm cr : FuncId} {c : AV} (hr : RotC α P cr c) {N : Nat} (ih : SymC α P key U0 cm c N) {h : AH} {v : AV} {A U V B : List α} {F : List Nat} (hN : U.length + V.length ≤ N + 1) (r : SlRep h v (A ++ (U ++ (V ++ B))) F) (o : Own n h F) (hc : CmpOk P key U0 h F c) (hu : ∀ x ∈ U, U0 x) (hv : ∀ x ∈ V, U0 x) (su : Srt key U) (sv : Srt key V) (hU : U ≠ []) (hV : V ≠ []) :
    (pSym (Cel.w α) (SEl.lo α) cr cm v (.int .i64 (A.length : Int)) (.int .i64 ((A.length + U.length : Nat) : Int)) (.int .i64 ((A.length + U.length + V.length : Nat) : Int)) c).awp P h (MutP n h v F (A ++ (ssort key (U ++ V) ++ B))) := by
  have hUl := List.length_pos_iff.2 hU
  have hVl := List.length_pos_iff.2 hV
  by_cases h1 : U.length = 1
  · obtain ⟨u, rfl⟩ := List.length_eq_one_iff.1 h1
    exact sym1_spec r o hc (hu u (by simp)) hv sv
  by_cases h2 : V.length = 1
  · obtain ⟨u, rfl⟩ := List.length_eq_one_iff.1 h2
    exact sym2_spec r o hc (hv u (by simp)) hu su h1
  have hsm := r.small
  simp only [List.length_append] at hsm
  have hc0 := hc
  obtain ⟨f, caps, rfl, hc⟩ := hc
  unfold pSym
  refine aw_subN U.length (by omega) (by omega) (aw_eql (fun e => absurd e (by omega)) (fun _ => aw_ite_f ?_))
  refine aw_subN V.length (by omega) (by omega) (aw_eql (fun e => absurd e (by omega)) (fun _ => aw_ite_f ?_))
  obtain ⟨H, hH⟩ : ∃ H, H = (U.length + V.length) / 2 := ⟨_, rfl⟩
  refine aw_addN (A.length + (A.length + U.length + V.length)) (by omega) (by omega) (aw_half (by omega) ?_)
  have e1 : (A.length + (A.length + U.length + V.length)) / 2 = A.length + H := by omega
  rw [e1]
  refine aw_addN (A.length + H + (A.length + U.length)) (by omega) (by omega) ?_
  refine aw_gtr (fun hlt => ?_) (fun hge => ?_)
  all_goals refine aw_scope (Prog.awp_mono (Q := fun t vs h' => t = 0 ∧ h' = h ∧ ∃ lo hi : Nat, vs = [.int .i64 ((A.length + lo : Nat) : Int), .int .i64 ((A.length + hi : Nat) : Int)] ∧ lo ≤ hi ∧ hi ≤ U.length ∧ hi ≤ H ∧ H ≤ lo + V.length ∧ (lo = 0 ∨ H - lo = V.length) ∧ (hi = U.length ∨ hi = H)) _ ?_ ?_)
  · exact aw_ite_t (aw_subN (A.length + (H - V.length)) (by omega) (by omega) (aw_leaf ⟨rfl, rfl, H - V.length, H, rfl, by omega, by omega, by omega, by omega, by omega, .inr rfl⟩))
  rotate_left 1
  · exact aw_ite_f (aw_leaf ⟨rfl, rfl, 0, U.length, rfl, by omega, by omega, by omega, by omega, .inl rfl, .inl rfl⟩)
  all_goals
    rintro t vs h' ⟨rfl, rfl, lo, hi, rfl, hlh, hiU, hiH, hloV, hlo, hhi⟩
    refine aw_nexts ?_
    simp only [g0, g1]
    refine aw_subN (A.length + H + (A.length + U.length) - 1) (by omega) (by omega) ?_
    refine aw_loop (fun d vs h1 => ∃ s r' : Nat, vs = [.int .i64 ((A.length + s : Nat) : Int), .int .i64 ((A.length + r' : Nat) : Int)] ∧ lo ≤ s ∧ s ≤ r' ∧ r' ≤ hi ∧ d = r' - s ∧ h1 = h' ∧
      (s = lo ∨ ∃ x y, U[s - 1]? = some x ∧ V[H - s]? = some y ∧ key x ≤ key y) ∧ (r' = hi ∨ ∃ x y, U[r']? = some x ∧ V[H - 1 - r']? = some y ∧ key y < key x)) (hi - lo) ⟨lo, hi, rfl, Nat.le_refl _, hlh, Nat.le_refl _, rfl, rfl, .inl rfl, .inl rfl⟩ ?_
    rintro d vs h1 ⟨s, r', rfl, hs1, hs2, hs3, rfl, rfl, hs, hr'⟩
    simp only [g0, g1]
    refine aw_lss (fun hlt2 => aw_ite_t ?_) (fun hge2 => aw_ite_f ?_)
    · refine aw_addN (A.length + s + (A.length + r')) (by omega) (by omega) (aw_half (by omega) ?_)
      obtain ⟨m, hm⟩ : ∃ m, m = (s + r') / 2 := ⟨_, rfl⟩
      have e2 : (A.length + s + (A.length + r')) / 2 = A.length + m := by omega
      rw [e2]
      refine aw_subN (A.length + (U.length + (H - 1 - m))) (by omega) (by omega) ?_
      obtain ⟨x, hx⟩ : ∃ x, U[m]? = some x := ⟨_, List.getElem?_eq_getElem (by omega)⟩
      obtain ⟨y, hy⟩ : ∃ y, V[H - 1 - m]? = some y := ⟨_, List.getElem?_eq_getElem (by omega)⟩
      have hx2 : (A ++ (U ++ (V ++ B)))[A.length + m]? = some x := get_mid hx rfl
      have hy2 : (A ++ (U ++ (V ++ B)))[A.length + (U.length + (H - 1 - m))]? = some y := by
        rw [← List.append_assoc]; exact get_mid hy (by simp; omega)
      refine aw_idx r hy2 rfl fun b1 o1 cy Fy ay ry _ => SEl.ld ay ry ?_
      refine aw_idx r hx2 rfl fun b2 o2 cx Fx ax rx _ => SEl.ld ax rx ?_
      refine aw_rcallv (hc _ (Kp.refl _ _) y x cy cx Fy Fx (hv y (List.mem_of_getElem? hy)) (hu x (List.mem_of_getElem? hx)) ry rx) ?_
      refine aw_lss (fun hneg => ?_) (fun hnn => ?_)
      · have hk := cmpI_lt.1 hneg
        exact aw_not_t (aw_scope (aw_ite_f (aw_leaf (aw_nexts (aw_leaf (aw_nexts ⟨m - s, by omega, s, m, rfl, hs1, by omega, by omega, rfl, rfl, hs, .inr ⟨x, y, hx, hy, hk⟩⟩))))))
      · have hk : ¬ key y < key x := fun hlt => hnn (cmpI_lt.2 hlt)
        exact aw_not_f (aw_scope (aw_ite_t (aw_addN (A.length + (m + 1)) (by omega) (by omega) (aw_leaf (aw_nexts (aw_leaf (aw_nexts ⟨r' - (m + 1), by omega, m + 1, r', rfl, by omega, by omega, hs3, rfl, rfl, .inr ⟨x, y, by simpa using hx, by rw [show H - (m + 1) = H - 1 - m by omega]; exact hy, by omega⟩, hr'⟩)))))))
    · have hsr : r' = s := by omega
      subst hsr
      refine aw_leaf (aw_ends (by decide) (aw_tsel_ne (by decide) (aw_tsel_eq ?_)))
      simp only [g0]
      have cut := sym_cut (key := key) (U := U) (V := V) (s := r') (H := H) su sv (by omega) (by omega) (by omega) (by
        rcases hs with e | e
        · rcases hlo with e' | e'
          · exact .inl (by omega)
          · exact .inr (.inl (by omega))
        · exact .inr (.inr e)) (by
        rcases hr' with e | e
        · rcases hhi with e' | e'
          · exact .inl (by omega)
          · exact .inr (.inl (by omega))
        · exact .inr (.inr e))
      obtain ⟨U1, hU1⟩ : ∃ U1, U1 = U.take r' := ⟨_, rfl⟩
      obtain ⟨U2, hU2⟩ : ∃ U2, U2 = U.drop r' := ⟨_, rfl⟩
      obtain ⟨V1, hV1⟩ : ∃ V1, V1 = V.take (H - r') := ⟨_, rfl⟩
      obtain ⟨V2, hV2⟩ : ∃ V2, V2 = V.drop (H - r') := ⟨_, rfl⟩
      have eU : U = U1 ++ U2 := by rw [hU1, hU2, List.take_append_drop]
      have eV : V = V1 ++ V2 := by rw [hV1, hV2, List.take_append_drop]
      have lU1 : U1.length = r' := by rw [hU1, List.length_take]; omega
      have lU2 : U2.length = U.length - r' := by rw [hU2, List.length_drop]
      have lV1 : V1.length = H - r' := by rw [hV1, List.length_take]; omega
      have lV2 : V2.length = V.length - (H - r') := by rw [hV2, List.length_drop]
      rw [← hU1, ← hU2, ← hV1, ← hV2] at cut
      have sU1 : Srt key U1 := by rw [eU] at su; exact su.l
      have sU2 : Srt key U2 := by rw [eU] at su; exact su.r
      have sV1 : Srt key V1 := by rw [eV] at sv; exact sv.l
      have sV2 : Srt key V2 := by rw [eV] at sv; exact sv.r
      have uU1 : ∀ x ∈ U1, U0 x := fun x hx => hu x (by rw [eU]; simp [hx])
      have uU2 : ∀ x ∈ U2, U0 x := fun x hx => hu x (by rw [eU]; simp [hx])
      have uV1 : ∀ x ∈ V1, U0 x := fun x hx => hv x (by rw [eV]; simp [hx])
      have uV2 : ∀ x ∈ V2, U0 x := fun x hx => hv x (by rw [eV]; simp [hx])
      have hnil : ∀ {L : List α}, L.length = 0 → L = [] := fun h => List.length_eq_zero_iff.1 h
      refine aw_subN (A.length + (U.length + (H - r'))) (by omega) (by omega) ?_
      have e0 : A ++ (U ++ (V ++ B)) = (A ++ U1) ++ (U2 ++ (V1 ++ (V2 ++ B))) := by rw [eU, eV]; simp
      rw [e0] at r
      refine aw_andscope (fun h2 => MutR n h1 v F (A ++ (U1 ++ (V1 ++ ((U2 ++ V2) ++ B)))) h2) (fun c1 c2 => ?_) (fun nc => ?_) ?_
      · have := hr n h1 v (A ++ U1) U2 V1 (V2 ++ B) F r o (fun e => by rw [e] at lU2; simp at lU2; omega) (fun e => by rw [e] at lV1; simp at lV1; omega)
        refine aw_call (R := fun _ h' => MutR n h1 v F (A ++ (U1 ++ (V1 ++ ((U2 ++ V2) ++ B)))) h') ?_ (fun u h2 m2 => aw_leaf ⟨rfl, m2⟩)
        unfold MutC at this
        simp only [List.length_append, lU1, lU2, lV1] at this
        have ea : (A ++ U1) ++ ((V1 ++ U2) ++ (V2 ++ B)) = A ++ (U1 ++ (V1 ++ ((U2 ++ V2) ++ B))) := by simp
        rw [ea] at this
        have i1 : A.length + r' + (U.length - r') = A.length + U.length := by omega
        have i2 : A.length + U.length + (H - r') = A.length + (U.length + (H - r')) := by omega
        rw [i1, i2] at this
        exact this
      · have hz : U2 = [] ∨ V1 = [] := by
          rcases Nat.lt_or_ge r' U.length with g1 | g1
          · exact .inr (hnil (by omega))
          · exact .inl (hnil (by omega))
        have ea : (A ++ U1) ++ (U2 ++ (V1 ++ (V2 ++ B))) = A ++ (U1 ++ (V1 ++ ((U2 ++ V2) ++ B))) := by
          rcases hz with e | e <;> rw [e] <;> simp
        rw [← ea]; exact MutR.refl r o
      rintro vs1 h2 ⟨k2, F2, p2, r2, o2⟩
      have hc2 := hc0.kp k2 p2
      refine aw_andscope (fun h3 => MutR n h1 v F (A ++ (ssort key (U1 ++ V1) ++ ((U2 ++ V2) ++ B))) h3) (fun c1 c2 => ?_) (fun nc => ?_) ?_
      · have := ih n h2 v A U1 V1 ((U2 ++ V2) ++ B) F2 (by omega) r2 o2 hc2 uU1 uV1 sU1 sV1 (fun e => by rw [e] at lU1; simp at lU1; omega) (fun e => by rw [e] at lV1; simp at lV1; omega)
        unfold MutC at this
        simp only [lU1, lV1] at this
        have i2 : A.length + r' + (H - r') = A.length + H := by omega
        rw [i2] at this
        exact aw_call this (fun u h3 m3 => aw_leaf ⟨rfl, MutR.trans k2 p2 m3⟩)
      · have hz : U1 = [] ∨ V1 = [] := by
          rcases Nat.lt_or_ge 0 r' with g1 | g1
          · exact .inr (hnil (by omega))
          · exact .inl (hnil (by omega))
        have ea : ssort key (U1 ++ V1) = U1 ++ V1 := ssort_of (by
          rcases hz with e | e <;> rw [e]
          · simpa using sV1
          · simpa using sU1)
        rw [ea]
        exact ⟨k2, F2, p2, by simpa using r2, o2⟩
      rintro vs2 h3 ⟨k3, F3, p3, r3, o3⟩
      have hc3 := hc0.kp k3 p3
      have lW : (ssort key (U1 ++ V1)).length = H := by rw [ssort_len, List.length_append, lU1, lV1]; omega
      have ef : A ++ (ssort key (U1 ++ V1) ++ (ssort key (U2 ++ V2) ++ B)) = A ++ (ssort key (U ++ V) ++ B) := by rw [← cut]; simp
      refine aw_andscope (fun h4 => MutR n h1 v F (A ++ (ssort key (U ++ V) ++ B)) h4) (fun c1 c2 => ?_) (fun nc => ?_) (fun vs3 h4 m4 => aw_fin0 ⟨rfl, _, rfl, m4⟩)
      · have eb : A ++ (ssort key (U1 ++ V1) ++ ((U2 ++ V2) ++ B)) = (A ++ ssort key (U1 ++ V1)) ++ (U2 ++ (V2 ++ B)) := by simp
        rw [eb] at r3
        have := ih n h3 v (A ++ ssort key (U1 ++ V1)) U2 V2 B F3 (by omega) r3 o3 hc3 uU2 uV2 sU2 sV2 (fun e => by rw [e] at lU2; simp at lU2; omega) (fun e => by rw [e] at lV2; simp at lV2; omega)
        unfold MutC at this
        simp only [List.length_append, lW, lU2, lV2] at this
        have i1 : A.length + H + (U.length - r') = A.length + (U.length + (H - r')) := by omega
        have i2 : A.length + (U.length + (H - r')) + (V.length - (H - r')) = A.length + U.length + V.length := by omega
        rw [i1, i2, List.append_assoc, ef] at this
        exact aw_call this (fun u h4 m4 => aw_leaf ⟨rfl, MutR.trans k3 p3 m4⟩)
      · have hz : U2 = [] ∨ V2 = [] := by
          rcases Nat.lt_or_ge r' U.length with g1 | g1
          · exact .inr (hnil (by omega))
          · exact .inl (hnil (by omega))
        have ea : ssort key (U2 ++ V2) = U2 ++ V2 := ssort_of (by
          rcases hz with e | e <;> rw [e]
          · simpa using sV2
          · simpa using sU2)
        rw [← ef, ea]
        exact ⟨k3, F3, p3, by simpa using r3, o3⟩
/-- Merges of all lengths. -/
theorem sym_all {cm cr : FuncId} {c : AV} (hr : RotC α P cr c) (hm : ∀ x1 x2 x3 v, CC P cm [v, x1, x2, x3, c] (pSym (Cel.w α) (SEl.lo α) cr cm v x1 x2 x3 c)) : ∀ N, SymC α P key U0 cm c N := by
  intro N
  induction N with
  | zero =>
    intro n h v A U V B F hN r o hc hu hv su sv hU hV
    have := List.length_pos_iff.2 hU
    omega
  | succ N ih =>
    intro n h v A U V B F hN r o hc hu hv su sv hU hV
    exact hm _ _ _ _ (sym_spec hr ih hN r o hc hu hv su sv hU hV)
end
end Go.Ab
