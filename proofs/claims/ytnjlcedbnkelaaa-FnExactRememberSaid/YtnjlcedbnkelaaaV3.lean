/- What is forgotten. -/
import Derived.Test.YtnjlcedbnkelaaaV2
set_option linter.unusedSimpArgs false
set_option linter.unusedVariables false
namespace Go.Proofs.Ytnjlcedbnkelaaa
open Go Go.Ab

def fgt (ys : List Verdict) (v : Verdict) : Bool := (ys.find? (isT v.trace)).isNone
def forgets (xs ys : List Verdict) : List Int := (xs.filter (fgt ys)).map (·.trace)
theorem forgets_snoc (xs ys : List Verdict) (x : Verdict) : forgets (xs ++ [x]) ys = if fgt ys x = true then forgets xs ys ++ [x.trace] else forgets xs ys := by
  unfold forgets
  by_cases h : fgt ys x = true <;> simp [List.filter_append, h]
theorem forgets_len (xs ys : List Verdict) : (forgets xs ys).length ≤ xs.length := by
  unfold forgets; simp [List.length_filter_le]

theorem s_impl_Forgets {h : AH} {xs ys : List Verdict} {x0 x1 : AV} {F G : List Nat} (r : SlRep h x0 xs F) (r' : SlRep h x1 ys G) (hsz : xs.length ≤ 1048576) : ACalls Try.prog n_impl_Forgets [x0, x1] h (NewS Int h (forgets xs ys)) := by
  refine c_impl_Forgets _ _ ?_
  unfold p_impl_Forgets
  refine aw_len r (aw_upto xs.length (fun i vs h1 => ∃ va F', vs = [va, .int .i64 (i : Int)] ∧ i ≤ xs.length ∧ Ext h h1 ∧ SlRep h1 va (forgets (xs.take i) ys) F' ∧ Own h.n h1 F') ⟨.nils, [], rfl, by omega, Ext.refl _, by simpa [forgets] using SlRep.nils, Own.nil⟩ ?_)
  rintro i vs h1 _ ⟨va, F', rfl, hi, e, ra, oa⟩
  simp only [g0, g1]
  refine aw_lss (fun hlt => ?_) (fun hge => ?_)
  · obtain ⟨x, hx, _, htk⟩ := drop_step (show i < xs.length by omega)
    have hfl := forgets_len (xs.take i) ys
    have htl : (xs.take i).length = i := by simp; omega
    (repeat' first|refine vs ?_|(refine br ?_ ?_<;>intro _<;>try(exfalso;first|omega|contradiction))|((with_reducible refine g_idx ?_);(first|refine ix ?_|refine ixi ?_);first|rintro _ _ _ _ _ ⟨rfl,rfl⟩ _|rintro _ _ _ _ _ ⟨_,rfl,_⟩ _|intro _ _ _ _ _ _ _))
    refine aw_rcall (s_impl_verdictAt (r'.ext ext_auto)) ?_
    rcases idx_find (isT x.trace) ys with ⟨h2, h3⟩ | ⟨j, y, h2, h3, h4⟩
    · rw [h2]
      (repeat' first|refine vs ?_|(refine br ?_ ?_<;>intro _<;>try(exfalso;first|omega|contradiction))|((with_reducible refine g_idx ?_);(first|refine ix ?_|refine ixi ?_);first|rintro _ _ _ _ _ ⟨rfl,rfl⟩ _|rintro _ _ _ _ _ ⟨_,rfl,_⟩ _|intro _ _ _ _ _ _ _))
      refine aw_app (ra.ext ext_auto) (slrep_push (n := 1) (xs := [x.trace]) rfl (by decide) (reps_one ⟨rfl, rfl⟩)) (by simpa using oa.ext ext_auto ra.lt) (Nat.le_trans e.1 (by simp; omega)) rfl (by simp; omega) (by simp; omega) ?_
      intro v2 h2 F2 kp rv ov
      (repeat' first|refine vs ?_|(refine br ?_ ?_<;>intro _<;>try(exfalso;first|omega|contradiction))|((with_reducible refine g_idx ?_);(first|refine ix ?_|refine ixi ?_);first|rintro _ _ _ _ _ ⟨rfl,rfl⟩ _|rintro _ _ _ _ _ ⟨_,rfl,_⟩ _|intro _ _ _ _ _ _ _))
      refine ⟨by omega, v2, F2, rfl, by omega, kp.ext ext_auto fun b hb => (oa.2 b hb).1, ?_, ov⟩
      rw [htk, forgets_snoc, if_pos (by simp [fgt, h3])]; exact rv
    · rw [h2]
      (repeat' first|refine vs ?_|(refine br ?_ ?_<;>intro _<;>try(exfalso;first|omega|contradiction))|((with_reducible refine g_idx ?_);(first|refine ix ?_|refine ixi ?_);first|rintro _ _ _ _ _ ⟨rfl,rfl⟩ _|rintro _ _ _ _ _ ⟨_,rfl,_⟩ _|intro _ _ _ _ _ _ _))
      refine ⟨by omega, va, F', rfl, by omega, ext_auto, ?_, oa.ext ext_auto ra.lt⟩
      rw [htk, forgets_snoc, if_neg (by simp [fgt, h4])]; exact ra.ext ext_auto
  · have : i = xs.length := by omega
    subst this
    rw [List.take_length] at ra
    (repeat' first|refine vs ?_|(refine br ?_ ?_<;>intro _<;>try(exfalso;first|omega|contradiction))|((with_reducible refine g_idx ?_);(first|refine ix ?_|refine ixi ?_);first|rintro _ _ _ _ _ ⟨rfl,rfl⟩ _|rintro _ _ _ _ _ ⟨_,rfl,_⟩ _|intro _ _ _ _ _ _ _))
    exact ⟨rfl, va, rfl, e, F', ra, oa⟩

theorem s_spec_Forgets {h : AH} {xs ys : List Verdict} {x0 x1 : AV} {F G : List Nat} (r : SlRep h x0 xs F) (r' : SlRep h x1 ys G) (hsz : xs.length ≤ 1048576) : ACalls Try.prog n_spec_Forgets [x0, x1] h (NewS Int h (forgets xs ys)) := by
  refine c_spec_Forgets _ _ ?_
  unfold p_spec_Forgets
  refine aw_bslice rfl (by decide) rfl ?_
  have rn : SlRep (h.push ⟨[], 1, 0⟩) (.sl h.n 0 0) ([] : List Int) [h.n] := slrep_push (n := 0) rfl (by decide) ⟨rfl, rfl⟩
  refine aw_upto xs.length (fun i vs h1 => ∃ va F', vs = [va, .int .i64 (i : Int)] ∧ i ≤ xs.length ∧ Ext h h1 ∧ SlRep h1 va (forgets (xs.take i) ys) F' ∧ Own h.n h1 F') ⟨.sl h.n 0 0, [h.n], rfl, by omega, (Ext.refl _).push _, by simpa [forgets] using rn, own_push (Nat.le_refl _) rfl (by simp) Own.nil⟩ ?_
  rintro i vs h1 _ ⟨va, F', rfl, hi, e, ra, oa⟩
  simp only [g0, g1]
  refine aw_len r (aw_lss (fun hlt => ?_) (fun hge => ?_))
  · obtain ⟨x, hx, _, htk⟩ := drop_step (show i < xs.length by omega)
    have hfl := forgets_len (xs.take i) ys
    have htl : (xs.take i).length = i := by simp; omega
    (repeat' first|refine vs ?_|(refine br ?_ ?_<;>intro _<;>try(exfalso;first|omega|contradiction))|((with_reducible refine g_idx ?_);(first|refine ix ?_|refine ixi ?_);first|rintro _ _ _ _ _ ⟨rfl,rfl⟩ _|rintro _ _ _ _ _ ⟨_,rfl,_⟩ _|intro _ _ _ _ _ _ _))
    refine aw_rcall (s_spec_VerdictOf (r'.ext ext_auto)) ?_
    (repeat' first|refine vs ?_|(refine br ?_ ?_<;>intro _<;>try(exfalso;first|omega|contradiction))|((with_reducible refine g_idx ?_);(first|refine ix ?_|refine ixi ?_);first|rintro _ _ _ _ _ ⟨rfl,rfl⟩ _|rintro _ _ _ _ _ ⟨_,rfl,_⟩ _|intro _ _ _ _ _ _ _))
    · have hb : (!(vOf ys x.trace).2) = true := by assumption
      refine aw_app (ra.ext ext_auto) (slrep_push (n := 1) (xs := [x.trace]) rfl (by decide) (reps_one ⟨rfl, rfl⟩)) (by simpa using oa.ext ext_auto ra.lt) (Nat.le_trans e.1 (by simp; omega)) rfl (by simp; omega) (by simp; omega) ?_
      intro v2 h2 F2 kp rv ov
      (repeat' first|refine vs ?_|(refine br ?_ ?_<;>intro _<;>try(exfalso;first|omega|contradiction))|((with_reducible refine g_idx ?_);(first|refine ix ?_|refine ixi ?_);first|rintro _ _ _ _ _ ⟨rfl,rfl⟩ _|rintro _ _ _ _ _ ⟨_,rfl,_⟩ _|intro _ _ _ _ _ _ _))
      refine ⟨by omega, v2, F2, rfl, by omega, kp.ext ext_auto fun b hb => (oa.2 b hb).1, ?_, ov⟩
      have : fgt ys x = true := by
        simp only [vOf] at hb
        unfold fgt
        split at hb <;> simp_all
      rw [htk, forgets_snoc, if_pos this]; exact rv
    · have hb : (!(vOf ys x.trace).2) = false := by assumption
      refine ⟨by omega, va, F', rfl, by omega, ext_auto, ?_, oa.ext ext_auto ra.lt⟩
      have : ¬ fgt ys x = true := by
        simp only [vOf] at hb
        unfold fgt
        split at hb <;> simp_all
      rw [htk, forgets_snoc, if_neg this]; exact ra.ext ext_auto
  · have : i = xs.length := by omega
    subst this
    rw [List.take_length] at ra
    (repeat' first|refine vs ?_|(refine br ?_ ?_<;>intro _<;>try(exfalso;first|omega|contradiction))|((with_reducible refine g_idx ?_);(first|refine ix ?_|refine ixi ?_);first|rintro _ _ _ _ _ ⟨rfl,rfl⟩ _|rintro _ _ _ _ _ ⟨_,rfl,_⟩ _|intro _ _ _ _ _ _ _))
    exact ⟨rfl, va, rfl, e, F', ra, oa⟩

end Go.Proofs.Ytnjlcedbnkelaaa
