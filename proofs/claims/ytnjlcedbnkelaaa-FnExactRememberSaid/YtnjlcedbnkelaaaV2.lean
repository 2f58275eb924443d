/- What is remembered, more. -/
import Derived.Test.YtnjlcedbnkelaaaV1
import Derived.Test.YtnjlcedbnkelaaaAb28
set_option linter.unusedSimpArgs false
set_option linter.unusedVariables false
namespace Go.Proofs.Ytnjlcedbnkelaaa
open Go Go.Ab

def cAt (xs : List Verdict) (i : Nat) (v : Verdict) : Prop := (1 ≤ v.trace ∧ v.trace ≤ 999) ∧ 1 ≤ v.stamp ∧ ∀ j u, j < i → xs[j]? = some u → u.trace ≠ v.trace
def cOk (xs : List Verdict) (k : Int) : Prop := (∀ i v, xs[i]? = some v → cAt xs i v) ∧ (xs.length : Int) ≤ k
theorem inB_t {a lo hi : Int} (h : inB a lo hi = true) : lo ≤ a ∧ a ≤ hi := by simpa [inB] using h
theorem inB_f {a lo hi : Int} (h : inB a lo hi = false) : ¬ (lo ≤ a ∧ a ≤ hi) := by simpa [inB] using h

theorem s_spec_CacheOk {h : AH} {xs : List Verdict} {x0 : AV} {F : List Nat} {k : Int} (r : SlRep h x0 xs F) : RCalls Try.prog n_spec_CacheOk [x0, .int .i64 k] h (.bool (bp (cOk xs k))) := by
  refine reader (c_spec_CacheOk _ _) (by simp only [old]) ?_
  unfold p_spec_CacheOk
  have hsm := r.small
  refine aw_upto xs.length (fun i vs h1 => (∃ y, vs = [.int .i64 (i : Int), y]) ∧ i ≤ xs.length ∧ h1 = h ∧ ∀ j v, j < i → xs[j]? = some v → cAt xs j v) ⟨⟨_, rfl⟩, by omega, rfl, by intro j v hj; omega⟩ ?_
  rintro i vs h1 _ ⟨⟨y, rfl⟩, hi, rfl, hc⟩
  simp only [g0, g1]
  refine aw_len r (aw_lss (fun hlt => ?_) (fun hge => ?_))
  · obtain ⟨x, hx, _, _⟩ := drop_step (show i < xs.length by omega)
    (repeat' first|refine vs ?_|(refine br ?_ ?_<;>intro _<;>try(exfalso;first|omega|contradiction))|((with_reducible refine g_idx ?_);(first|refine ix ?_|refine ixi ?_);first|rintro _ _ _ _ _ ⟨rfl,rfl⟩ _|rintro _ _ _ _ _ ⟨_,rfl,_⟩ _|intro _ _ _ _ _ _ _))
    refine aw_rcall_b s_spec_l1In ?_ ?_ <;> intro hb
    · have hb := inB_t hb
      (repeat' first|refine vs ?_|(refine br ?_ ?_<;>intro _<;>try(exfalso;first|omega|contradiction))|((with_reducible refine g_idx ?_);(first|refine ix ?_|refine ixi ?_);first|rintro _ _ _ _ _ ⟨rfl,rfl⟩ _|rintro _ _ _ _ _ ⟨_,rfl,_⟩ _|intro _ _ _ _ _ _ _))
      · refine ⟨rfl, ?_, Ext.refl _⟩
        rw [bp_f]
        intro hk
        have := (hk.1 i x hx).2.1
        omega
      · rename_i hst
        refine aw_upto i (fun j vs h2 => vs = [.int .i64 (j : Int)] ∧ j ≤ i ∧ h2 = h1 ∧ ∀ l u, l < j → xs[l]? = some u → u.trace ≠ x.trace) ⟨rfl, by omega, rfl, by intro l u hl; omega⟩ ?_
        rintro j vs h2 _ ⟨rfl, hj, rfl, hn⟩
        simp only [g0]
        refine aw_lss (fun hlt2 => ?_) (fun hge2 => ?_)
        · obtain ⟨u, hu, _, _⟩ := drop_step (show j < xs.length by omega)
          (repeat' first|refine vs ?_|(refine br ?_ ?_<;>intro _<;>try(exfalso;first|omega|contradiction))|((with_reducible refine g_idx ?_);(first|refine ix ?_|refine ixi ?_);first|rintro _ _ _ _ _ ⟨rfl,rfl⟩ _|rintro _ _ _ _ _ ⟨_,rfl,_⟩ _|intro _ _ _ _ _ _ _))
          · refine ⟨rfl, ?_, Ext.refl _⟩
            rw [bp_f]
            intro hk
            exact (hk.1 i x hx).2.2 j u (by omega) hu (by assumption)
          · rename_i hne
            refine ⟨by omega, rfl, by omega, rfl, fun l w hl hw => ?_⟩
            by_cases e : l = j
            · subst e; rw [hu] at hw; cases hw; exact hne
            · exact hn l w (by omega) hw
        · have : j = i := by omega
          subst this
          (repeat' first|refine vs ?_|(refine br ?_ ?_<;>intro _<;>try(exfalso;first|omega|contradiction))|((with_reducible refine g_idx ?_);(first|refine ix ?_|refine ixi ?_);first|rintro _ _ _ _ _ ⟨rfl,rfl⟩ _|rintro _ _ _ _ _ ⟨_,rfl,_⟩ _|intro _ _ _ _ _ _ _))
          refine ⟨by omega, ⟨_, rfl⟩, by omega, rfl, fun l w hl hw => ?_⟩
          by_cases e : l = j
          · subst e; rw [hx] at hw; cases hw; exact ⟨hb, by omega, hn⟩
          · exact hc l w (by omega) hw
    · have hb := inB_f hb
      (repeat' first|refine vs ?_|(refine br ?_ ?_<;>intro _<;>try(exfalso;first|omega|contradiction))|((with_reducible refine g_idx ?_);(first|refine ix ?_|refine ixi ?_);first|rintro _ _ _ _ _ ⟨rfl,rfl⟩ _|rintro _ _ _ _ _ ⟨_,rfl,_⟩ _|intro _ _ _ _ _ _ _))
      refine ⟨rfl, ?_, Ext.refl _⟩
      rw [bp_f]
      intro hk
      exact hb (hk.1 i x hx).1
  · have : i = xs.length := by omega
    subst this
    (repeat' first|refine vs ?_|(refine br ?_ ?_<;>intro _<;>try(exfalso;first|omega|contradiction))|((with_reducible refine g_idx ?_);(first|refine ix ?_|refine ixi ?_);first|rintro _ _ _ _ _ ⟨rfl,rfl⟩ _|rintro _ _ _ _ _ ⟨_,rfl,_⟩ _|intro _ _ _ _ _ _ _))
    · refine ⟨rfl, ?_, Ext.refl _⟩
      rw [bp_t]
      exact ⟨fun j v hv => hc j v (List.getElem?_eq_some_iff.1 hv).1 hv, by omega⟩
    · refine ⟨rfl, ?_, Ext.refl _⟩
      rw [bp_f]
      intro hk
      have := hk.2
      omega

theorem idx_first {xs : List Verdict} {i : Nat} {x : Verdict} (hx : xs[i]? = some x) : idx (isT x.trace) xs = i ↔ ∀ j u, j < i → xs[j]? = some u → u.trace ≠ x.trace := by
  constructor
  · intro h j u hj hu he
    unfold idx at h
    split at h
    · have : j < xs.findIdx (isT x.trace) := by omega
      have := List.not_of_lt_findIdx this
      have hj' := (List.getElem?_eq_some_iff.1 hu)
      rw [hj'.2] at this
      simp [isT, he] at this
    · omega
  · intro h
    exact idx_at hx (by simp [isT]) fun j u hj hu => by simpa [isT] using h j u hj hu

theorem s_impl_CacheOk {h : AH} {xs : List Verdict} {x0 : AV} {F : List Nat} {k : Int} (r : SlRep h x0 xs F) : RCalls Try.prog n_impl_CacheOk [x0, .int .i64 k] h (.bool (bp (cOk xs k))) := by
  refine reader (c_impl_CacheOk _ _) (by simp only [old]) ?_
  unfold p_impl_CacheOk
  have hsm := r.small
  refine aw_len r (aw_upto xs.length (fun i vs h1 => vs = [.int .i64 (i : Int)] ∧ i ≤ xs.length ∧ Ext h h1 ∧ ∀ j v, j < i → xs[j]? = some v → cAt xs j v) ⟨rfl, by omega, Ext.refl _, by intro j v hj; omega⟩ ?_)
  rintro i vs h1 _ ⟨rfl, hi, e, hc⟩
  simp only [g0]
  refine aw_lss (fun hlt => ?_) (fun hge => ?_)
  · obtain ⟨x, hx, _, _⟩ := drop_step (show i < xs.length by omega)
    (repeat' first|refine vs ?_|(refine br ?_ ?_<;>intro _<;>try(exfalso;first|omega|contradiction))|((with_reducible refine g_idx ?_);(first|refine ix ?_|refine ixi ?_);first|rintro _ _ _ _ _ ⟨rfl,rfl⟩ _|rintro _ _ _ _ _ ⟨_,rfl,_⟩ _|intro _ _ _ _ _ _ _))
    refine aw_rcall_b s_impl_within ?_ ?_ <;> intro hb
    · have hb := inB_t hb
      (repeat' first|refine vs ?_|(refine br ?_ ?_<;>intro _<;>try(exfalso;first|omega|contradiction))|((with_reducible refine g_idx ?_);(first|refine ix ?_|refine ixi ?_);first|rintro _ _ _ _ _ ⟨rfl,rfl⟩ _|rintro _ _ _ _ _ ⟨_,rfl,_⟩ _|intro _ _ _ _ _ _ _))
      · refine ⟨rfl, ?_, ext_auto⟩
        rw [bp_f]
        intro hk
        have := (hk.1 i x hx).2.1
        omega
      · rename_i hst
        refine aw_rcall (s_impl_verdictAt (r.ext ext_auto)) ?_
        (repeat' first|refine vs ?_|(refine br ?_ ?_<;>intro _<;>try(exfalso;first|omega|contradiction))|((with_reducible refine g_idx ?_);(first|refine ix ?_|refine ixi ?_);first|rintro _ _ _ _ _ ⟨rfl,rfl⟩ _|rintro _ _ _ _ _ ⟨_,rfl,_⟩ _|intro _ _ _ _ _ _ _))
        · rename_i hne
          refine ⟨rfl, ?_, ext_auto⟩
          rw [bp_f]
          intro hk
          exact hne ((idx_first hx).2 (hk.1 i x hx).2.2)
        · rename_i heq
          refine ⟨by omega, rfl, by omega, ext_auto, fun l w hl hw => ?_⟩
          by_cases e : l = i
          · subst e; rw [hx] at hw; cases hw; exact ⟨hb, by omega, (idx_first hx).1 heq⟩
          · exact hc l w (by omega) hw
    · have hb := inB_f hb
      (repeat' first|refine vs ?_|(refine br ?_ ?_<;>intro _<;>try(exfalso;first|omega|contradiction))|((with_reducible refine g_idx ?_);(first|refine ix ?_|refine ixi ?_);first|rintro _ _ _ _ _ ⟨rfl,rfl⟩ _|rintro _ _ _ _ _ ⟨_,rfl,_⟩ _|intro _ _ _ _ _ _ _))
      refine ⟨rfl, ?_, ext_auto⟩
      rw [bp_f]
      intro hk
      exact hb (hk.1 i x hx).1
  · have : i = xs.length := by omega
    subst this
    (repeat' first|refine vs ?_|(refine br ?_ ?_<;>intro _<;>try(exfalso;first|omega|contradiction))|((with_reducible refine g_idx ?_);(first|refine ix ?_|refine ixi ?_);first|rintro _ _ _ _ _ ⟨rfl,rfl⟩ _|rintro _ _ _ _ _ ⟨_,rfl,_⟩ _|intro _ _ _ _ _ _ _))
    · refine ⟨rfl, ?_, ext_auto⟩
      rw [bp_t]
      exact ⟨fun j v hv => hc j v (List.getElem?_eq_some_iff.1 hv).1 hv, by omega⟩
    · refine ⟨rfl, ?_, ext_auto⟩
      rw [bp_f]
      intro hk
      have := hk.2
      omega

theorem law_FnExactCacheOk {h : AH} {xs : List Verdict} {x0 : AV} {F : List Nat} {k : Int} (r : SlRep h x0 xs F) (ok0 : ∀ x ∈ xs, Cel.ok x) (ok1 : rng k) : RCalls Try.prog n_laws_FnExactCacheOk [x0, .int .i64 k] h (.bool true) := by
  refine reader (c_laws_FnExactCacheOk _ _) (by simp only [old]) ?_
  unfold p_laws_FnExactCacheOk
  refine aw_rcall (s_laws_szVerdictS xs x0 F _ h r (by decide) (by decide)) ?_
  (repeat' first|refine vs ?_|(refine br ?_ ?_<;>intro _<;>try(exfalso;first|omega|contradiction))|((with_reducible refine g_idx ?_);(first|refine ix ?_|refine ixi ?_);first|rintro _ _ _ _ _ ⟨rfl,rfl⟩ _|rintro _ _ _ _ _ ⟨_,rfl,_⟩ _|intro _ _ _ _ _ _ _))
  · exact ⟨rfl, rfl, Ext.refl _⟩
  rename_i hs
  have hs : xs.length ≤ 1048576 := by simp only [szr] at hs; split at hs <;> omega
  refine aw_call (s_laws_toVerdictS xs x0 F h r (by omega)) ?_
  rintro v1 h1 ⟨e1, F1, r1, o1⟩
  refine aw_rcall (s_spec_CacheOk r1) ?_
  refine aw_call (s_laws_toVerdictS xs x0 F _ (r.ext ext_auto) (by omega)) ?_
  rintro v2 h2 ⟨e2, F2, r2, o2⟩
  refine aw_rcall (s_impl_CacheOk r2) ?_
  (repeat' first|refine vs ?_|(refine br ?_ ?_<;>intro _<;>try(exfalso;first|omega|contradiction))|((with_reducible refine g_idx ?_);(first|refine ix ?_|refine ixi ?_);first|rintro _ _ _ _ _ ⟨rfl,rfl⟩ _|rintro _ _ _ _ _ ⟨_,rfl,_⟩ _|intro _ _ _ _ _ _ _))
  · exfalso; simp_all
  · refine aw_call (s_laws_toVerdictS xs x0 F _ (r.ext ext_auto) (by omega)) ?_
    rintro v3 h3 ⟨e3, F3, r3, o3⟩
    refine aw_rcall (s_laws_eqVerdictS xs _ _ _ _ _ (r2.ext ext_auto) r3) ?_
    (repeat' first|refine vs ?_|(refine br ?_ ?_<;>intro _<;>try(exfalso;first|omega|contradiction))|((with_reducible refine g_idx ?_);(first|refine ix ?_|refine ixi ?_);first|rintro _ _ _ _ _ ⟨rfl,rfl⟩ _|rintro _ _ _ _ _ ⟨_,rfl,_⟩ _|intro _ _ _ _ _ _ _))
    exact ⟨rfl, rfl, ext_auto⟩

end Go.Proofs.Ytnjlcedbnkelaaa
