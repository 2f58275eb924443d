/- Remember, as the document has it; its law. -/
import Derived.Test.YtnjlcedbnkelaaaV6
set_option linter.unusedSimpArgs false
set_option linter.unusedVariables false
namespace Go.Proofs.Ytnjlcedbnkelaaa
open Go Go.Ab

theorem empty_own {h : AH} {w : Nat} {α : Type} [Cel α] (hw : w = Cel.w α) : SlRep (h.push ⟨[], w, 0⟩) (.sl h.n 0 0) ([] : List α) [h.n] ∧ ∀ n, n ≤ h.n → Own n (h.push ⟨[], w, 0⟩) [h.n] := by
  subst hw
  exact ⟨slrep_push (n := 0) rfl (by decide) ⟨rfl, rfl⟩, fun n hn => own_push hn rfl (by simp) Own.nil⟩

theorem s_spec_Remember {h : AH} {xs : List Verdict} {x0 : AV} {F : List Nat} {v : Verdict} {m : Int} (r : SlRep h x0 xs F) (hsz : xs.length ≤ 1048576) :
    ACalls Try.prog n_spec_Remember [x0, .agg v.cs, .int .i64 m] h fun u h' => Ext h h' ∧ ∃ u0 F', u = .tup [u0, .int .i64 (rem xs v m).2] ∧ SlRep h' u0 (rem xs v m).1 F' ∧ Own h.n h' F' := by
  refine c_spec_Remember _ _ _ ?_
  unfold p_spec_Remember
  refine aw_box rfl ?_
  have hf := tail_flat r
  refine aw_lss (fun hm => aw_ite_t ?_) (fun hm => aw_ite_f ?_)
  · refine aw_bslice rfl (by decide) rfl ?_
    obtain ⟨re, oe⟩ := empty_own (h := h.push ⟨v.cs, 0, 0⟩) (α := Verdict) (w := 3) rfl
    refine aw_app (n := h.n + 1) re (r.ext ext_auto) (by rw [hf]; simpa using oe (h.n + 1) (by simp)) (by simp) rfl (by simp; omega) (by simp; omega) ?_
    intro v1 h1 F1 k1 r1 o1
    refine aw_fin2 ⟨rfl, _, rfl, k1.ext ext_auto (by simp), v1, F1, ?_, ?_, o1.mono (by omega) fun _ _ => rfl⟩
    · simp [rem, hm]
    · simpa [rem, hm] using r1
  · refine aw_bslice rfl (by decide) rfl ?_
    obtain ⟨re, oe⟩ := empty_own (h := h.push ⟨v.cs, 0, 0⟩) (α := Verdict) (w := 3) rfl
    refine aw_upto xs.length (fun i vs h1 => ∃ va F', vs = [va, .int .i64 (i : Int)] ∧ i ≤ xs.length ∧ Ext (h.push ⟨v.cs, 0, 0⟩) h1 ∧ SlRep h1 va ((xs.take i).filter fun x => !isT v.trace x) F' ∧ Own (h.n + 1) h1 F') ⟨_, _, rfl, by omega, ext_auto, re, oe _ (by simp)⟩ ?_
    rintro i vs h1 _ ⟨va, F', rfl, hi, e, ra, oa⟩
    simp only [g0, g1]
    have a1 : At h1 h.n 0 v.cs := at_push.ext e
    have E1 : Ext h h1 := Ext.trans ((Ext.refl h).push _) e
    refine aw_len r (aw_lss (fun hlt => ?_) (fun hge => ?_))
    · obtain ⟨x, hx, _, htk⟩ := drop_step (show i < xs.length by omega)
      have hfl : ((xs.take i).filter fun x => !isT v.trace x).length ≤ (xs.take i).length := List.length_filter_le _ _
      have htl : (xs.take i).length = i := by simp; omega
      have hn1 := e.1
      have hE : (xs.take (i + 1)).filter (fun x => !isT v.trace x) = (xs.take i).filter (fun x => !isT v.trace x) ++ (if isT v.trace x = true then [] else [x]) := by
        rw [htk, List.filter_append]; by_cases hh : isT v.trace x = true <;> simp [hh]
      (repeat' first|refine vs ?_|(refine br ?_ ?_<;>intro _<;>try(exfalso;first|omega|contradiction))|((with_reducible refine g_idx ?_);(first|refine ix ?_|refine ixi ?_);first|rintro _ _ _ _ _ ⟨rfl,rfl⟩ _|rintro _ _ _ _ _ ⟨_,rfl,_⟩ _|intro _ _ _ _ _ _ _))
      · rename_i hne _ _ _ _
        refine aw_app (n := h.n + 1) (ra.ext ext_auto) (slrep_push (n := 1) (xs := [x]) rfl (by decide) (reps_one ⟨rfl, rfl⟩)) (by simpa using oa.ext ext_auto ra.lt) (by simp at hn1 ⊢; omega) rfl (by simp; omega) (by simp; omega) ?_
        intro v2 h2 F2 kp rv ov
        (repeat' first|refine vs ?_|(refine br ?_ ?_<;>intro _<;>try(exfalso;first|omega|contradiction))|((with_reducible refine g_idx ?_);(first|refine ix ?_|refine ixi ?_);first|rintro _ _ _ _ _ ⟨rfl,rfl⟩ _|rintro _ _ _ _ _ ⟨_,rfl,_⟩ _|intro _ _ _ _ _ _ _))
        refine ⟨by omega, v2, F2, rfl, by omega, kp.ext (Ext.trans e ((Ext.refl _).push _)) fun b hb => by have := (oa.2 b hb).1; simpa using this, ?_, ov⟩
        rw [hE]
        have : ¬ isT v.trace x = true := by simp [isT]; assumption
        rw [if_neg this]; exact rv
      · refine ⟨by omega, va, F', rfl, by omega, e, ?_, oa⟩
        rw [hE]
        have : isT v.trace x = true := by simp [isT]; assumption
        rw [if_pos this, List.append_nil]; exact ra
    · have : i = xs.length := by omega
      subst this
      rw [List.take_length] at ra
      have hfl : (xs.filter fun x => !isT v.trace x).length ≤ xs.length := List.length_filter_le _ _
      have hn1 := e.1
      (repeat' first|refine vs ?_|(refine br ?_ ?_<;>intro _<;>try(exfalso;first|omega|contradiction))|((with_reducible refine g_idx ?_);(first|refine ix ?_|refine ixi ?_);first|rintro _ _ _ _ _ ⟨rfl,rfl⟩ _|rintro _ _ _ _ _ ⟨_,rfl,_⟩ _|intro _ _ _ _ _ _ _))
      refine aw_app (n := h.n + 1) (ra.ext ext_auto) (slrep_push (n := 1) (xs := [v]) rfl (by decide) (reps_one ⟨rfl, rfl⟩)) (by simpa using oa.ext ext_auto ra.lt) (by simp at hn1 ⊢; omega) rfl (by simp; omega) (by simp; omega) ?_
      intro v3 h3 F3 k3 r3 o3
      have e3 : Ext h h3 := k3.ext (Ext.trans E1 ((Ext.refl _).push _)) fun b hb => by have := (oa.2 b hb).1; omega
      have hL : (keepers xs v).length ≤ 1048577 := by simp [keepers]; omega
      change SlRep h3 v3 (keepers xs v) F3 at r3
      refine aw_loop (fun k vs h4 => ∃ d va F4, vs = [va, .int .i64 (gone (keepers xs v) d)] ∧ k = (keepers xs v).length - d ∧ d ≤ (keepers xs v).length - m.toNat ∧ Ext h h4 ∧ SlRep h4 va ((keepers xs v).drop d) F4 ∧ Own h.n h4 F4) (keepers xs v).length ⟨0, v3, F3, rfl, rfl, by omega, e3, r3, o3.mono (by omega) fun _ _ => rfl⟩ ?_
      rintro k vs h4 ⟨d, va, F4, rfl, rfl, hd, e4, r4, o4⟩
      simp only [g0, g1]
      refine aw_len r4 ?_
      rw [List.length_drop]
      refine aw_gtr (fun hgt => ?_) (fun hle => ?_)
      · obtain ⟨x, hx, hdr, _⟩ := drop_step (show d < (keepers xs v).length by omega)
        rw [hdr] at r4
        have h0 : (x :: (keepers xs v).drop (d + 1))[(0 : Int).toNat]? = some x := rfl
        refine aw_ite_t (aw_idxi r4 (by decide) h0 rfl ?_)
        rintro b o cs Fi a5 ⟨rfl, rfl⟩ _
        clear a1 e3 E1 e
        (repeat' first|refine vs ?_|(refine br ?_ ?_<;>intro _<;>try(exfalso;first|omega|contradiction))|((with_reducible refine g_idx ?_);(first|refine ix ?_|refine ixi ?_);first|rintro _ _ _ _ _ ⟨rfl,rfl⟩ _|rintro _ _ _ _ _ ⟨_,rfl,_⟩ _|intro _ _ _ _ _ _ _))
        obtain ⟨re, oe⟩ := empty_own (h := h4) (α := Verdict) (w := 3) rfl
        refine aw_tail rfl (r4.ext ext_auto) (o4.ext ext_auto r4.lt) fun u r5 => ?_
        refine aw_app (n := h.n) re r5 (by rw [tail_flat r5]; simpa using oe h.n e4.1) (by have := e4.1; simp; omega) rfl (by simp; omega) (by simp; omega) ?_
        intro v6 h6 F6 k6 r6 o6
        (repeat' first|refine vs ?_|(refine br ?_ ?_<;>intro _<;>try(exfalso;first|omega|contradiction))|((with_reducible refine g_idx ?_);(first|refine ix ?_|refine ixi ?_);first|rintro _ _ _ _ _ ⟨rfl,rfl⟩ _|rintro _ _ _ _ _ ⟨_,rfl,_⟩ _|intro _ _ _ _ _ _ _))
        refine ⟨_, ?_, d + 1, v6, F6, by rw [gone_succ hx], rfl, by omega, k6.ext (e4.push _) (by have := e4.1; simp; omega), by simpa using r6, o6⟩
        omega
      · have hde : d = (keepers xs v).length - m.toNat := by omega
        (repeat' first|refine vs ?_|(refine br ?_ ?_<;>intro _<;>try(exfalso;first|omega|contradiction))|((with_reducible refine g_idx ?_);(first|refine ix ?_|refine ixi ?_);first|rintro _ _ _ _ _ ⟨rfl,rfl⟩ _|rintro _ _ _ _ _ ⟨_,rfl,_⟩ _|intro _ _ _ _ _ _ _))
        refine ⟨rfl, _, rfl, e4, va, F4, ?_, ?_, o4⟩
        · rw [hde]; simp [rem, hm, g]
        · rw [hde] at r4; simpa [rem, hm] using r4

end Go.Proofs.Ytnjlcedbnkelaaa
