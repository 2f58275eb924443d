/- Marks on verdicts and numbers; the law of what is forgotten. -/
import Derived.Test.YtnjlcedbnkelaaaV3
import Derived.Test.YtnjlcedbnkelaaaAb29
set_option linter.unusedSimpArgs false
set_option linter.unusedVariables false
namespace Go.Proofs.Ytnjlcedbnkelaaa
open Go Go.Ab

instance : Flat Int where
  toCel := inferInstance
  enc := fun x => [.int .i64 x]
  rep_iff := Iff.rfl
instance : Flat Verdict where
  toCel := inferInstance
  enc := Verdict.cs
  rep_iff := Iff.rfl
instance : Mk Int := ⟨fun m _ => (m, m + 1)⟩
instance : Mk Verdict := ⟨fun m _ => (⟨m, m + 1, decide ((m + 2).tmod 3 = 0)⟩, m + 3)⟩
theorem cnt_Int (l : List Int) (m : Int) : (mks m l).2 = m + l.length := by
  have := mks_cnt (c := 1) (fun m (x : Int) => rfl) l m; simpa using this
theorem cnt_Verdict (l : List Verdict) (m : Int) : (mks m l).2 = m + l.length * 3 := mks_cnt (c := 3) (fun m (x : Verdict) => rfl) l m

theorem s_laws_markVerdictS : MarkS Verdict Try.prog n_laws_markVerdictS := by
  intro xs v F n m h r o h0 h1
  refine c_laws_markVerdictS _ _ ?_
  unfold p_laws_markVerdictS
  rcases r.flat with ⟨rfl, rfl, rfl⟩ | ⟨b, pre, post, rfl, rfl, hb, hl, hes, hs, hc⟩
  · refine aw_upto 0 (fun i vs h2 => vs = [.int .i64 m, .int .i64 (0 : Nat)] ∧ h2 = h) ⟨rfl, rfl⟩ ?_
    rintro i vs h2 _ ⟨rfl, rfl⟩
    refine aw_len_nil ?_
    (repeat' first|refine vs ?_|(refine br ?_ ?_<;>intro _<;>try(exfalso;first|omega|contradiction))|((with_reducible refine g_idx ?_);(first|refine ix ?_|refine ixi ?_);first|rintro _ _ _ _ _ ⟨rfl,rfl⟩ _|rintro _ _ _ _ _ ⟨_,rfl,_⟩ _|intro _ _ _ _ _ _ _))
    exact ⟨rfl, _, rfl, rfl, Kp.refl _ _, r, o⟩
  · have hmine : (h.get b).st = 0 := (o.2 b (by simp)).2
    rw [cnt_Verdict] at h1
    clear r
    refine aw_upto xs.length (fun i vs h2 => vs = [.int .i64 (mks m (xs.take i)).2, .int .i64 (i : Int)] ∧ i ≤ xs.length ∧ h2 = h.upd b ⟨(pre ++ (mks m (xs.take i)).1.flatMap Verdict.cs) ++ ((xs.drop i).flatMap Verdict.cs ++ post), 3, 0⟩) ?_ ?_
    · refine ⟨by simp [mks], by omega, ?_⟩
      simp only [List.take_zero, mks, List.flatMap_nil, List.append_nil, List.drop_zero]
      have : h.get b = ⟨pre ++ (xs.flatMap Verdict.cs ++ post), 3, 0⟩ := by
        have e : h.get b = ⟨(h.get b).cells, (h.get b).es, (h.get b).st⟩ := rfl
        rw [e, hc, hes, hmine]; rfl
      rw [← this, upd_same]
    · rintro i vs h2 _ ⟨rfl, hi, rfl⟩
      simp only [g0, g1]
      have hcnt := cnt_Verdict (xs.take i) m
      rw [show (xs.take i).length = i by simp; omega] at hcnt
      refine aw_len_raw (aw_lss (fun hlt => ?_) (fun hge => ?_))
      · obtain ⟨x, hx, hdr, htk⟩ := drop_step (show i < xs.length by omega)
        have hA : (pre ++ (mks m (xs.take i)).1.flatMap Verdict.cs).length = pre.length + i * 3 := by
          have := flat_len' (mks m (xs.take i)).1
          rw [mks_len] at this
          simp only [List.length_append]
          rw [show ((mks m (xs.take i)).1.flatMap Verdict.cs).length = (xs.take i).length * 3 from this]
          simp; omega
        rw [hdr, List.flatMap_cons, List.append_assoc x.cs]
        refine aw_ite_t (aw_idx_n (by omega) (aw_fad ?_))
        refine aw_st_e (E := x.cs) (j := 0) rfl (by simp [Verdict.cs]) (by omega) ?_
        have hR : (mks m (xs.take (i + 1))).2 = (mks m (xs.take i)).2 + 3 := by rw [htk, mks_snoc]; rfl
        have hE : (mks m (xs.take (i + 1))).1 = (mks m (xs.take i)).1 ++ [⟨(mks m (xs.take i)).2, (mks m (xs.take i)).2 + 1, decide (((mks m (xs.take i)).2 + 2).tmod 3 = 0)⟩] := by rw [htk, mks_snoc]; rfl
        rw [hR, hE]
        generalize (mks m (xs.take i)).2 = c at *
        generalize (mks m (xs.take i)).1 = ys at *
        (repeat' first|refine vs ?_|(refine br ?_ ?_<;>intro _<;>try(exfalso;first|omega|contradiction))|((with_reducible refine g_idx ?_);(first|refine ix ?_|refine ixi ?_);first|rintro _ _ _ _ _ ⟨rfl,rfl⟩ _|rintro _ _ _ _ _ ⟨_,rfl,_⟩ _|intro _ _ _ _ _ _ _))
        refine aw_idx_n (by omega) (aw_fad ?_)
        refine aw_st_e (j := 1) rfl (by simp [Verdict.cs]) (by omega) ?_
        (repeat' first|refine vs ?_|(refine br ?_ ?_<;>intro _<;>try(exfalso;first|omega|contradiction))|((with_reducible refine g_idx ?_);(first|refine ix ?_|refine ixi ?_);first|rintro _ _ _ _ _ ⟨rfl,rfl⟩ _|rintro _ _ _ _ _ ⟨_,rfl,_⟩ _|intro _ _ _ _ _ _ _))
        all_goals refine aw_idx_n (by omega) (aw_fad ?_)
        all_goals refine aw_st_e (j := 2) rfl (by simp [Verdict.cs]) (by omega) ?_
        all_goals (repeat' first|refine vs ?_|(refine br ?_ ?_<;>intro _<;>try(exfalso;first|omega|contradiction))|((with_reducible refine g_idx ?_);(first|refine ix ?_|refine ixi ?_);first|rintro _ _ _ _ _ ⟨rfl,rfl⟩ _|rintro _ _ _ _ _ ⟨_,rfl,_⟩ _|intro _ _ _ _ _ _ _))
        all_goals refine ⟨by omega, by rw [show c + 1 + 1 + 1 = c + 3 by omega], by omega, ?_⟩
        all_goals (rename_i hm; rw [show c + 1 + 1 = c + 2 by omega] at hm; simp [Verdict.cs, hm])
      · have : i = xs.length := by omega
        subst this
        rw [List.take_length]
        (repeat' first|refine vs ?_|(refine br ?_ ?_<;>intro _<;>try(exfalso;first|omega|contradiction))|((with_reducible refine g_idx ?_);(first|refine ix ?_|refine ixi ?_);first|rintro _ _ _ _ _ ⟨rfl,rfl⟩ _|rintro _ _ _ _ _ ⟨_,rfl,_⟩ _|intro _ _ _ _ _ _ _))
        have hg : (h.upd b ⟨(pre ++ (mks m xs).1.flatMap Verdict.cs) ++ ((xs.drop xs.length).flatMap Verdict.cs ++ post), 3, 0⟩).get b = ⟨pre ++ ((mks m xs).1.flatMap Flat.enc ++ post), 3, 0⟩ := by simp; rfl
        refine ⟨rfl, _, rfl, rfl, kp_upd, ?_, o.1, ?_⟩
        · have := slrep_flat (h := h.upd b ⟨(pre ++ (mks m xs).1.flatMap Verdict.cs) ++ ((xs.drop xs.length).flatMap Verdict.cs ++ post), 3, 0⟩) (b := b) (pre := pre) (post := post) (xs := (mks m xs).1) hb (by simp only [live, hg]; decide) (by simp only [hg]; rfl) (by rw [mks_len]; exact hs) (by simp only [hg])
          rw [mks_len] at this
          exact this
        · intro c hc
          simp at hc; subst hc
          exact ⟨(o.2 c (by simp)).1, by simp⟩

theorem mks_get {α : Type} [Mk α] : ∀ (l : List α) (m : Int) (i : Nat) (x : α), l[i]? = some x → (mks m l).1[i]? = some (Mk.put (mks m (l.take i)).2 x).1
  | [], m, i, x, h => by simp at h
  | y :: l, m, 0, x, h => by simp at h; subst h; simp [mks]
  | y :: l, m, i + 1, x, h => by
    simp at h
    simp only [mks, List.take_succ_cons, List.getElem?_cons_succ]
    exact mks_get l _ i x h

theorem s_laws_heldVerdictS : HeldS Verdict Try.prog n_laws_heldVerdictS := by
  intro xs v F m h r h0 h1
  refine reader (c_laws_heldVerdictS _ _) (by simp only [old]) ?_
  unfold p_laws_heldVerdictS
  rw [cnt_Verdict] at h1
  have hsm := r.small
  rw [mks_len] at hsm
  refine aw_upto xs.length (fun i vs h2 => vs = [.int .i64 (mks m (xs.take i)).2, .int .i64 (i : Int)] ∧ i ≤ xs.length ∧ h2 = h) ⟨by simp [mks], by omega, rfl⟩ ?_
  rintro i vs h2 _ ⟨rfl, hi, rfl⟩
  simp only [g0, g1]
  have hcnt := cnt_Verdict (xs.take i) m
  rw [show (xs.take i).length = i by simp; omega] at hcnt
  refine aw_len r ?_
  rw [mks_len]
  refine aw_lss (fun hlt => ?_) (fun hge => ?_)
  · obtain ⟨x, hx, _, htk⟩ := drop_step (show i < xs.length by omega)
    have hR : (mks m (xs.take (i + 1))).2 = (mks m (xs.take i)).2 + 3 := by rw [htk, mks_snoc]; rfl
    have hy : (mks m xs).1[i]? = some ⟨(mks m (xs.take i)).2, (mks m (xs.take i)).2 + 1, decide (((mks m (xs.take i)).2 + 2).tmod 3 = 0)⟩ := mks_get xs m i x hx
    rw [hR]
    generalize (mks m (xs.take i)).2 = c at *
    (repeat' first|refine vs ?_|(refine br ?_ ?_<;>intro _<;>try(exfalso;first|omega|contradiction))|((with_reducible refine g_idx ?_);(first|refine ix ?_|refine ixi ?_);first|rintro _ _ _ _ _ ⟨rfl,rfl⟩ _|rintro _ _ _ _ _ ⟨_,rfl,_⟩ _|intro _ _ _ _ _ _ _))
    all_goals (rename_i hm; rw [show c + 1 + 1 = c + 2 by omega] at *)
    all_goals first
      | exact ⟨by omega, by rw [show c + 2 + 1 = c + 3 by omega], by omega, rfl⟩
      | (exfalso; simp_all; done)
  · have : i = xs.length := by omega
    subst this
    rw [List.take_length]
    (repeat' first|refine vs ?_|(refine br ?_ ?_<;>intro _<;>try(exfalso;first|omega|contradiction))|((with_reducible refine g_idx ?_);(first|refine ix ?_|refine ixi ?_);first|rintro _ _ _ _ _ ⟨rfl,rfl⟩ _|rintro _ _ _ _ _ ⟨_,rfl,_⟩ _|intro _ _ _ _ _ _ _))
    exact ⟨rfl, rfl, Ext.refl _⟩

def icell (x : Int) : List AV := [.int .i64 x]
theorem s_laws_markIntS : MarkS Int Try.prog n_laws_markIntS := by
  intro xs v F n m h r o h0 h1
  refine c_laws_markIntS _ _ ?_
  unfold p_laws_markIntS
  rcases r.flat with ⟨rfl, rfl, rfl⟩ | ⟨b, pre, post, rfl, rfl, hb, hl, hes, hs, hc⟩
  · refine aw_upto 0 (fun i vs h2 => vs = [.int .i64 m, .int .i64 (0 : Nat)] ∧ h2 = h) ⟨rfl, rfl⟩ ?_
    rintro i vs h2 _ ⟨rfl, rfl⟩
    refine aw_len_nil ?_
    (repeat' first|refine vs ?_|(refine br ?_ ?_<;>intro _<;>try(exfalso;first|omega|contradiction))|((with_reducible refine g_idx ?_);(first|refine ix ?_|refine ixi ?_);first|rintro _ _ _ _ _ ⟨rfl,rfl⟩ _|rintro _ _ _ _ _ ⟨_,rfl,_⟩ _|intro _ _ _ _ _ _ _))
    exact ⟨rfl, _, rfl, rfl, Kp.refl _ _, r, o⟩
  · have hmine : (h.get b).st = 0 := (o.2 b (by simp)).2
    rw [cnt_Int] at h1
    clear r
    refine aw_upto xs.length (fun i vs h2 => vs = [.int .i64 (mks m (xs.take i)).2, .int .i64 (i : Int)] ∧ i ≤ xs.length ∧ h2 = h.upd b ⟨(pre ++ (mks m (xs.take i)).1.flatMap icell) ++ ((xs.drop i).flatMap icell ++ post), 1, 0⟩) ?_ ?_
    · refine ⟨by simp [mks], by omega, ?_⟩
      simp only [List.take_zero, mks, List.flatMap_nil, List.append_nil, List.drop_zero]
      have : h.get b = ⟨pre ++ (xs.flatMap icell ++ post), 1, 0⟩ := by
        have e : h.get b = ⟨(h.get b).cells, (h.get b).es, (h.get b).st⟩ := rfl
        rw [e, hc, hes, hmine]; rfl
      rw [← this, upd_same]
    · rintro i vs h2 _ ⟨rfl, hi, rfl⟩
      simp only [g0, g1]
      have hcnt := cnt_Int (xs.take i) m
      rw [show (xs.take i).length = i by simp; omega] at hcnt
      refine aw_len_raw (aw_lss (fun hlt => ?_) (fun hge => ?_))
      · obtain ⟨x, hx, hdr, htk⟩ := drop_step (show i < xs.length by omega)
        have hA : (pre ++ (mks m (xs.take i)).1.flatMap icell).length = pre.length + i * 1 := by
          have := flat_len' (mks m (xs.take i)).1
          rw [mks_len] at this
          simp only [List.length_append]
          rw [show ((mks m (xs.take i)).1.flatMap icell).length = (xs.take i).length * 1 from this]
          simp; omega
        rw [hdr, List.flatMap_cons, List.append_assoc (icell x)]
        refine aw_ite_t (aw_idx_n (by omega) ?_)
        refine aw_st_e (E := icell x) (j := 0) rfl (by simp [icell]) (by omega) ?_
        have hR : (mks m (xs.take (i + 1))).2 = (mks m (xs.take i)).2 + 1 := by rw [htk, mks_snoc]; rfl
        have hE : (mks m (xs.take (i + 1))).1 = (mks m (xs.take i)).1 ++ [(mks m (xs.take i)).2] := by rw [htk, mks_snoc]; rfl
        rw [hR, hE]
        generalize (mks m (xs.take i)).2 = c at *
        generalize (mks m (xs.take i)).1 = ys at *
        (repeat' first|refine vs ?_|(refine br ?_ ?_<;>intro _<;>try(exfalso;first|omega|contradiction))|((with_reducible refine g_idx ?_);(first|refine ix ?_|refine ixi ?_);first|rintro _ _ _ _ _ ⟨rfl,rfl⟩ _|rintro _ _ _ _ _ ⟨_,rfl,_⟩ _|intro _ _ _ _ _ _ _))
        refine ⟨by omega, rfl, by omega, ?_⟩
        simp [icell]
      · have : i = xs.length := by omega
        subst this
        rw [List.take_length]
        (repeat' first|refine vs ?_|(refine br ?_ ?_<;>intro _<;>try(exfalso;first|omega|contradiction))|((with_reducible refine g_idx ?_);(first|refine ix ?_|refine ixi ?_);first|rintro _ _ _ _ _ ⟨rfl,rfl⟩ _|rintro _ _ _ _ _ ⟨_,rfl,_⟩ _|intro _ _ _ _ _ _ _))
        have hg : (h.upd b ⟨(pre ++ (mks m xs).1.flatMap icell) ++ ((xs.drop xs.length).flatMap icell ++ post), 1, 0⟩).get b = ⟨pre ++ ((mks m xs).1.flatMap Flat.enc ++ post), 1, 0⟩ := by simp; rfl
        refine ⟨rfl, _, rfl, rfl, kp_upd, ?_, o.1, ?_⟩
        · have := slrep_flat (h := h.upd b ⟨(pre ++ (mks m xs).1.flatMap icell) ++ ((xs.drop xs.length).flatMap icell ++ post), 1, 0⟩) (b := b) (pre := pre) (post := post) (xs := (mks m xs).1) hb (by simp only [live, hg]; decide) (by simp only [hg]; rfl) (by rw [mks_len]; exact hs) (by simp only [hg])
          rw [mks_len] at this
          exact this
        · intro c hc
          simp at hc; subst hc
          exact ⟨(o.2 c (by simp)).1, by simp⟩

theorem s_laws_heldIntS : HeldS Int Try.prog n_laws_heldIntS := by
  intro xs v F m h r h0 h1
  refine reader (c_laws_heldIntS _ _) (by simp only [old]) ?_
  unfold p_laws_heldIntS
  rw [cnt_Int] at h1
  have hsm := r.small
  rw [mks_len] at hsm
  refine aw_upto xs.length (fun i vs h2 => vs = [.int .i64 (mks m (xs.take i)).2, .int .i64 (i : Int)] ∧ i ≤ xs.length ∧ h2 = h) ⟨by simp [mks], by omega, rfl⟩ ?_
  rintro i vs h2 _ ⟨rfl, hi, rfl⟩
  simp only [g0, g1]
  have hcnt := cnt_Int (xs.take i) m
  rw [show (xs.take i).length = i by simp; omega] at hcnt
  refine aw_len r ?_
  rw [mks_len]
  refine aw_lss (fun hlt => ?_) (fun hge => ?_)
  · obtain ⟨x, hx, _, htk⟩ := drop_step (show i < xs.length by omega)
    have hR : (mks m (xs.take (i + 1))).2 = (mks m (xs.take i)).2 + 1 := by rw [htk, mks_snoc]; rfl
    have hy : (mks m xs).1[i]? = some (mks m (xs.take i)).2 := mks_get xs m i x hx
    rw [hR]
    generalize (mks m (xs.take i)).2 = c at *
    (repeat' first|refine vs ?_|(refine br ?_ ?_<;>intro _<;>try(exfalso;first|omega|contradiction))|((with_reducible refine g_idx ?_);(first|refine ix ?_|refine ixi ?_);first|rintro _ _ _ _ _ ⟨rfl,rfl⟩ _|rintro _ _ _ _ _ ⟨_,rfl,_⟩ _|intro _ _ _ _ _ _ _))
    exact ⟨by omega, rfl, by omega, rfl⟩
  · have : i = xs.length := by omega
    subst this
    rw [List.take_length]
    (repeat' first|refine vs ?_|(refine br ?_ ?_<;>intro _<;>try(exfalso;first|omega|contradiction))|((with_reducible refine g_idx ?_);(first|refine ix ?_|refine ixi ?_);first|rintro _ _ _ _ _ ⟨rfl,rfl⟩ _|rintro _ _ _ _ _ ⟨_,rfl,_⟩ _|intro _ _ _ _ _ _ _))
    exact ⟨rfl, rfl, Ext.refl _⟩

theorem s_laws_eqIntS : EqS Int Try.prog n_laws_eqIntS := by
  intro xs v v' F F' h r r'
  refine reader (c_laws_eqIntS _ _) (by simp only [old]) ?_
  unfold p_laws_eqIntS
  have hsm := r.small
  refine aw_len r (aw_len r' (aw_neq (fun hne => absurd rfl hne) fun _ => aw_ite_f ?_))
  refine aw_upto xs.length (fun i vs h1 => vs = [.int .i64 (i : Int)] ∧ i ≤ xs.length ∧ h1 = h) ⟨rfl, Nat.zero_le _, rfl⟩ ?_
  rintro i vs h1 _ ⟨rfl, hi, rfl⟩
  simp only [g0]
  refine aw_len r (aw_lss (fun hlt => ?_) (fun hge => ?_))
  · obtain ⟨x, hx, _, htk⟩ := drop_step (show i < xs.length by omega)
    (repeat' first|refine vs ?_|(refine br ?_ ?_<;>intro _<;>try(exfalso;first|omega|contradiction))|((with_reducible refine g_idx ?_);(first|refine ix ?_|refine ixi ?_);first|rintro _ _ _ _ _ ⟨rfl,rfl⟩ _|rintro _ _ _ _ _ ⟨_,rfl,_⟩ _|intro _ _ _ _ _ _ _))
    exact ⟨by omega, rfl, by omega, rfl⟩
  · (repeat' first|refine vs ?_|(refine br ?_ ?_<;>intro _<;>try(exfalso;first|omega|contradiction))|((with_reducible refine g_idx ?_);(first|refine ix ?_|refine ixi ?_);first|rintro _ _ _ _ _ ⟨rfl,rfl⟩ _|rintro _ _ _ _ _ ⟨_,rfl,_⟩ _|intro _ _ _ _ _ _ _))
    exact ⟨rfl, rfl, Ext.refl _⟩

end Go.Proofs.Ytnjlcedbnkelaaa
