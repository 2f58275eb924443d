/- What is remembered: the functions. -/
import Derived.Test.YtnjlcedbnkelaaaPg
import Derived.Test.YtnjlcedbnkelaaaAb31
set_option linter.unusedSimpArgs false
set_option linter.unusedVariables false
namespace Go.Proofs.Ytnjlcedbnkelaaa
open Go Go.Ab

theorem idx_find {α : Type} (p : α → Bool) (xs : List α) : (idx p xs = -1 ∧ xs.find? p = none) ∨ ∃ (i : Nat) (x : α), idx p xs = i ∧ xs[i]? = some x ∧ xs.find? p = some x := by
  unfold idx
  by_cases hi : xs.findIdx p < xs.length
  · right
    refine ⟨xs.findIdx p, xs[xs.findIdx p], by rw [if_pos hi], List.getElem?_eq_getElem hi, ?_⟩
    rw [List.find?_eq_some_iff_getElem]
    exact ⟨List.findIdx_getElem, xs.findIdx p, hi, rfl, fun j hj => by simpa using List.not_of_lt_findIdx hj⟩
  · left
    refine ⟨by rw [if_neg hi], ?_⟩
    rw [List.find?_eq_none]
    have : xs.findIdx p = xs.length := by have := List.findIdx_le_length (xs := xs) (p := p); omega
    rw [List.findIdx_eq_length] at this
    intro x hx; simp [this x hx]

def inB (a lo hi : Int) : Bool := decide (lo ≤ a ∧ a ≤ hi)
theorem s_spec_l1In {h : AH} {a lo hi : Int} : RCalls Try.prog n_spec_l1In [.int .i64 a, .int .i64 lo, .int .i64 hi] h (.bool (inB a lo hi)) := by
  refine reader (c_spec_l1In _ _ _) (by simp only [old]) ?_
  unfold p_spec_l1In
  (repeat' first|refine vs ?_|(refine br ?_ ?_<;>intro _<;>try(exfalso;first|omega|contradiction))|((with_reducible refine g_idx ?_);(first|refine ix ?_|refine ixi ?_);first|rintro _ _ _ _ _ ⟨rfl,rfl⟩ _|rintro _ _ _ _ _ ⟨_,rfl,_⟩ _|intro _ _ _ _ _ _ _))
  all_goals (refine ⟨rfl, ?_, Ext.refl _⟩; simp [inB]; omega)
theorem s_impl_within {h : AH} {a lo hi : Int} : RCalls Try.prog n_impl_within [.int .i64 a, .int .i64 lo, .int .i64 hi] h (.bool (inB a lo hi)) := by
  refine reader (c_impl_within _ _ _) (by simp only [old]) ?_
  unfold p_impl_within
  (repeat' first|refine vs ?_|(refine br ?_ ?_<;>intro _<;>try(exfalso;first|omega|contradiction))|((with_reducible refine g_idx ?_);(first|refine ix ?_|refine ixi ?_);first|rintro _ _ _ _ _ ⟨rfl,rfl⟩ _|rintro _ _ _ _ _ ⟨_,rfl,_⟩ _|intro _ _ _ _ _ _ _))
  all_goals (refine ⟨rfl, ?_, Ext.refl _⟩; simp [inB]; omega)

/-! ### Verdicts -/
def isT (k : Int) (v : Verdict) : Bool := decide (v.trace = k)
def vOf (xs : List Verdict) (k : Int) : Verdict × Bool := match xs.find? (isT k) with
  | some v => (v, true)
  | none => (⟨0, 0, false⟩, false)

theorem s_verdictAt_1 {h : AH} {b : Nat} {k : Int} (a : At h b 0 [.int .i64 k]) : Looks Verdict Try.prog h n_impl_verdictAt_1 [.ptr b 0] (isT k) := by
  rintro x cs F ⟨rfl, rfl⟩
  refine reader (c_impl_verdictAt_1 _ _) (by simp only [old]) ?_
  unfold p_impl_verdictAt_1
  refine aw_box rfl ?_
  have a1 := at_push (h := h) (cs := x.cs) (es := 0)
  have e1 : Ext h (h.push ⟨x.cs, 0, 0⟩) := (Ext.refl h).push _
  (repeat' first|refine vs ?_|(refine br ?_ ?_<;>intro _<;>try(exfalso;first|omega|contradiction))|((with_reducible refine g_idx ?_);(first|refine ix ?_|refine ixi ?_);first|rintro _ _ _ _ _ ⟨rfl,rfl⟩ _|rintro _ _ _ _ _ ⟨_,rfl,_⟩ _|intro _ _ _ _ _ _ _))
  all_goals (refine ⟨rfl, ?_, e1⟩; simp [isT, *])
theorem s_slices_IndexFunc_Verdict {h : AH} {xs : List Verdict} {x0 : AV} {F : List Nat} {f : FuncId} {caps : List AV} {p : Verdict → Bool} (r : SlRep h x0 xs F) (hf : Looks Verdict Try.prog h f caps p) :
    RCalls Try.prog n_slices_IndexFunc_Verdict [x0, .fn f caps] h (.int .i64 (idx p xs)) :=
  reader (c_slices_IndexFunc_Verdict _ _) (by simp only [old]) (idxF_spec (w := 3) rfl r hf)
theorem s_impl_verdictAt {h : AH} {xs : List Verdict} {x0 : AV} {F : List Nat} {k : Int} (r : SlRep h x0 xs F) : RCalls Try.prog n_impl_verdictAt [x0, .int .i64 k] h (.int .i64 (idx (isT k) xs)) := by
  refine reader (c_impl_verdictAt _ _) (by simp only [old]) ?_
  unfold p_impl_verdictAt
  refine aw_box rfl (aw_mkfn (aw_rcall (s_slices_IndexFunc_Verdict (r.ext ((Ext.refl _).push _)) (s_verdictAt_1 at_push)) (aw_fin1 ⟨rfl, rfl, (Ext.refl _).push _⟩)))

theorem s_impl_VerdictOf {h : AH} {xs : List Verdict} {x0 : AV} {F : List Nat} {k : Int} (r : SlRep h x0 xs F) : RCalls Try.prog n_impl_VerdictOf [x0, .int .i64 k] h (.tup [.agg (vOf xs k).1.cs, .bool (vOf xs k).2]) := by
  refine reader (c_impl_VerdictOf _ _) (by simp only [old, olds, Verdict.cs, and_self]) ?_
  unfold p_impl_VerdictOf
  refine aw_alloc (aw_rcall (s_impl_verdictAt (r.ext ((Ext.refl _).push _))) ?_)
  rcases idx_find (isT k) xs with ⟨h1, h2⟩ | ⟨i, x, h1, h2, h3⟩
  · rw [h1]
    simp only [vOf, h2]
    (repeat' first|refine vs ?_|(refine br ?_ ?_<;>intro _<;>try(exfalso;first|omega|contradiction))|((with_reducible refine g_idx ?_);(first|refine ix ?_|refine ixi ?_);first|rintro _ _ _ _ _ ⟨rfl,rfl⟩ _|rintro _ _ _ _ _ ⟨_,rfl,_⟩ _|intro _ _ _ _ _ _ _))
    all_goals (refine ⟨rfl, ?_, (Ext.refl _).push _⟩; first | rfl | simp [splice])
  · rw [h1]
    simp only [vOf, h3]
    (repeat' first|refine vs ?_|(refine br ?_ ?_<;>intro _<;>try(exfalso;first|omega|contradiction))|((with_reducible refine g_idx ?_);(first|refine ix ?_|refine ixi ?_);first|rintro _ _ _ _ _ ⟨rfl,rfl⟩ _|rintro _ _ _ _ _ ⟨_,rfl,_⟩ _|intro _ _ _ _ _ _ _))
    all_goals (refine ⟨rfl, ?_, (Ext.refl _).push _⟩; first | rfl | simp [splice])

theorem s_spec_VerdictOf {h : AH} {xs : List Verdict} {x0 : AV} {F : List Nat} {k : Int} (r : SlRep h x0 xs F) : RCalls Try.prog n_spec_VerdictOf [x0, .int .i64 k] h (.tup [.agg (vOf xs k).1.cs, .bool (vOf xs k).2]) := by
  refine reader (c_spec_VerdictOf _ _) (by simp only [old, olds, Verdict.cs, and_self]) ?_
  unfold p_spec_VerdictOf
  have hsm := r.small
  refine aw_alloc (aw_upto xs.length (fun i vs h1 => vs = [.int .i64 (i : Int)] ∧ i ≤ xs.length ∧ h1 = h.push ⟨[.int .i64 0, .int .i64 0, .bool false], 0, 0⟩ ∧ xs.find? (isT k) = (xs.drop i).find? (isT k)) ⟨rfl, by omega, rfl, by simp⟩ ?_)
  rintro i vs h1 _ ⟨rfl, hi, rfl, hf⟩
  simp only [g0]
  refine aw_len r (aw_lss (fun hlt => ?_) (fun hge => ?_))
  · obtain ⟨x, hx, hd, _⟩ := drop_step (show i < xs.length by omega)
    rw [hd, List.find?_cons] at hf
    (repeat' first|refine vs ?_|(refine br ?_ ?_<;>intro _<;>try(exfalso;first|omega|contradiction))|((with_reducible refine g_idx ?_);(first|refine ix ?_|refine ixi ?_);first|rintro _ _ _ _ _ ⟨rfl,rfl⟩ _|rintro _ _ _ _ _ ⟨_,rfl,_⟩ _|intro _ _ _ _ _ _ _))
    · refine ⟨rfl, ?_, (Ext.refl _).push _⟩
      simp_all [vOf, isT, splice, Verdict.cs]
    · refine ⟨by omega, rfl, by omega, rfl, ?_⟩
      simp_all [isT]
  · have : i = xs.length := by omega
    subst this
    simp at hf
    (repeat' first|refine vs ?_|(refine br ?_ ?_<;>intro _<;>try(exfalso;first|omega|contradiction))|((with_reducible refine g_idx ?_);(first|refine ix ?_|refine ixi ?_);first|rintro _ _ _ _ _ ⟨rfl,rfl⟩ _|rintro _ _ _ _ _ ⟨_,rfl,_⟩ _|intro _ _ _ _ _ _ _))
    refine ⟨rfl, ?_, (Ext.refl _).push _⟩
    have : xs.find? (isT k) = none := by simpa using hf
    simp [vOf, this, splice, Verdict.cs]

theorem s_laws_toVerdict : CopyC Verdict Try.prog n_laws_toVerdict := by
  rintro x cs F h ⟨rfl, rfl⟩
  refine c_laws_toVerdict _ ?_
  unfold p_laws_toVerdict
  (repeat' first|refine vs ?_|(refine br ?_ ?_<;>intro _<;>try(exfalso;first|omega|contradiction))|((with_reducible refine g_idx ?_);(first|refine ix ?_|refine ixi ?_);first|rintro _ _ _ _ _ ⟨rfl,rfl⟩ _|rintro _ _ _ _ _ ⟨_,rfl,_⟩ _|intro _ _ _ _ _ _ _))
  refine ⟨rfl, _, rfl, ext_auto, x.cs, [], ?_, ⟨rfl, rfl⟩, Own.nil⟩
  simp [splice, Verdict.cs]
theorem s_laws_toVerdictS : CopyS Verdict Try.prog n_laws_toVerdictS 24 := fun xs v F h r hs => c_laws_toVerdictS _ (toS_spec rfl rfl rfl s_laws_toVerdict r hs)
theorem s_laws_eqVerdict : EqC Verdict Try.prog n_laws_eqVerdict := by
  rintro x cs cs' F F' h ⟨rfl, rfl⟩ ⟨rfl, rfl⟩
  refine reader (c_laws_eqVerdict _ _) (by simp only [old]) ?_
  unfold p_laws_eqVerdict
  (repeat' first|refine vs ?_|(refine br ?_ ?_<;>intro _<;>try(exfalso;first|omega|contradiction))|((with_reducible refine g_idx ?_);(first|refine ix ?_|refine ixi ?_);first|rintro _ _ _ _ _ ⟨rfl,rfl⟩ _|rintro _ _ _ _ _ ⟨_,rfl,_⟩ _|intro _ _ _ _ _ _ _))
  all_goals first | exact ⟨rfl, rfl, ext_auto⟩ | (exfalso; simp_all; done)
theorem s_laws_eqVerdictS : EqS Verdict Try.prog n_laws_eqVerdictS := fun xs v v' F F' h r r' => reader (c_laws_eqVerdictS _ _) (by simp only [old]) (eqS_spec rfl s_laws_eqVerdict r r')
theorem s_laws_szVerdictS : SzS Verdict Try.prog n_laws_szVerdictS List.length := fun xs v F b h r h0 h1 => reader (c_laws_szVerdictS _ _) (by simp only [old]) (szF_spec r h0 h1)

theorem law_FnExactVerdictOf {h : AH} {xs : List Verdict} {x0 : AV} {F : List Nat} {k : Int} (r : SlRep h x0 xs F) (ok0 : ∀ x ∈ xs, Cel.ok x) (ok1 : rng k) : RCalls Try.prog n_laws_FnExactVerdictOf [x0, .int .i64 k] h (.bool true) := by
  refine reader (c_laws_FnExactVerdictOf _ _) (by simp only [old]) ?_
  unfold p_laws_FnExactVerdictOf
  refine aw_rcall (s_laws_szVerdictS xs x0 F _ h r (by decide) (by decide)) ?_
  (repeat' first|refine vs ?_|(refine br ?_ ?_<;>intro _<;>try(exfalso;first|omega|contradiction))|((with_reducible refine g_idx ?_);(first|refine ix ?_|refine ixi ?_);first|rintro _ _ _ _ _ ⟨rfl,rfl⟩ _|rintro _ _ _ _ _ ⟨_,rfl,_⟩ _|intro _ _ _ _ _ _ _))
  · exact ⟨rfl, rfl, Ext.refl _⟩
  rename_i hs
  have hs : xs.length ≤ 1048576 := by simp only [szr] at hs; split at hs <;> omega
  refine aw_call (s_laws_toVerdictS xs x0 F h r (by omega)) ?_
  rintro v1 h1 ⟨e1, F1, r1, o1⟩
  refine aw_rcall (s_spec_VerdictOf r1) ?_
  (repeat' first|refine vs ?_|(refine br ?_ ?_<;>intro _<;>try(exfalso;first|omega|contradiction))|((with_reducible refine g_idx ?_);(first|refine ix ?_|refine ixi ?_);first|rintro _ _ _ _ _ ⟨rfl,rfl⟩ _|rintro _ _ _ _ _ ⟨_,rfl,_⟩ _|intro _ _ _ _ _ _ _))
  refine aw_call (s_laws_toVerdictS xs x0 F _ (r.ext ext_auto) (by omega)) ?_
  rintro v2 h2 ⟨e2, F2, r2, o2⟩
  have a2 := At.ext at_push e2
  refine aw_rcall (s_impl_VerdictOf r2) ?_
  (repeat' first|refine vs ?_|(refine br ?_ ?_<;>intro _<;>try(exfalso;first|omega|contradiction))|((with_reducible refine g_idx ?_);(first|refine ix ?_|refine ixi ?_);first|rintro _ _ _ _ _ ⟨rfl,rfl⟩ _|rintro _ _ _ _ _ ⟨_,rfl,_⟩ _|intro _ _ _ _ _ _ _))
  refine aw_rcall (s_laws_eqVerdict (vOf xs k).1 _ _ [] [] _ ⟨rfl, rfl⟩ ⟨rfl, rfl⟩) ?_
  (repeat' first|refine vs ?_|(refine br ?_ ?_<;>intro _<;>try(exfalso;first|omega|contradiction))|((with_reducible refine g_idx ?_);(first|refine ix ?_|refine ixi ?_);first|rintro _ _ _ _ _ ⟨rfl,rfl⟩ _|rintro _ _ _ _ _ ⟨_,rfl,_⟩ _|intro _ _ _ _ _ _ _))
  · exfalso; simp_all
  · refine aw_call (s_laws_toVerdictS xs x0 F _ (r.ext ext_auto) (by omega)) ?_
    rintro v3 h3 ⟨e3, F3, r3, o3⟩
    refine aw_rcall (s_laws_eqVerdictS xs _ _ _ _ _ (r2.ext ext_auto) r3) ?_
    (repeat' first|refine vs ?_|(refine br ?_ ?_<;>intro _<;>try(exfalso;first|omega|contradiction))|((with_reducible refine g_idx ?_);(first|refine ix ?_|refine ixi ?_);first|rintro _ _ _ _ _ ⟨rfl,rfl⟩ _|rintro _ _ _ _ _ ⟨_,rfl,_⟩ _|intro _ _ _ _ _ _ _))
    exact ⟨rfl, rfl, ext_auto⟩

end Go.Proofs.Ytnjlcedbnkelaaa
