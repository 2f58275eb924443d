
/- What is remembered: the functions (turned from V1, V3, V6, V7). -/
import Derived.Test.YtpcgbddmdipfbaaW19
import Derived.Test.YtpcgbddmdipfbaaK4
set_option linter.unusedSimpArgs false
set_option linter.unusedVariables false
set_option maxHeartbeats 2000000
namespace Go.Proofs.Ytpcgbddmdipfbaa
open Go Go.Ab
section
/- impl.VerdictOf -/
def p_impl_VerdictOf (x0 x1 : AV) : Prog := .op (.alloc [AV.int .i64 0, AV.int .i64 0, AV.bool false]) fun v1 => .op (.call n_impl_verdictAt [x0, x1]) fun v2 => .op (.bin 0 .lss v2 (AV.int .i64 0)) fun v3 => .ite v3 (.op (.build [AV.int .i64 0, AV.int .i64 0, AV.bool false] []) fun v4 => .op (.st 3 v1 v4) fun v5 => .fin [.cn 3 v1, .val (AV.bool false)]) (.op (.idx 3 x0 v2) fun v6 => .op (.ldn 3 v6) fun v7 => .op (.st 3 v1 v7) fun v8 => .fin [.cn 3 v1, .val (AV.bool true)])
theorem c_impl_VerdictOf (x0 x1 : AV) : CC Try.prog n_impl_VerdictOf [x0, x1] (p_impl_VerdictOf x0 x1) := cc Try.func43 [] (fun _ => []) (by kernel_rfl)
/- spec.VerdictOf -/
def p_spec_VerdictOf (x0 x1 : AV) : Prog := .op (.alloc [AV.int .i64 0, AV.int .i64 0, AV.bool false]) fun v1 => .loop [AV.int .i64 0] (fun vs2 => .op (.len 0 x0) fun v4 => .op (.bin 0 .lss (g vs2 0) v4) fun v5 => .ite v5 (.op (.idx 3 x0 (g vs2 0)) fun v6 => .op (.fad 0 v6) fun v7 => .op (.ld1 v7) fun v8 => .op (.bin 0 .eql v8 x1) fun v9 => .ite v9 (.op (.idx 3 x0 (g vs2 0)) fun v10 => .op (.ldn 3 v10) fun v11 => .op (.st 3 v1 v11) fun v12 => .fin [.cn 3 v1, .val (AV.bool true)]) (.op (.bin 0 .add (g vs2 0) (AV.int .i64 1)) fun v13 => .leaf 0 [v13])) (.leaf 2 [g vs2 0])) fun t3 vs2 => tsel t3 1 (.leaf 1 vs2) (tsel t3 2 (.op (.build [AV.int .i64 0, AV.int .i64 0, AV.bool false] []) fun v14 => .op (.st 3 v1 v14) fun v15 => .fin [.cn 3 v1, .val (AV.bool false)]) .bad)
theorem c_spec_VerdictOf (x0 x1 : AV) : CC Try.prog n_spec_VerdictOf [x0, x1] (p_spec_VerdictOf x0 x1) := cc Try.func44 [0, 1, 4, 6] (fun _ => []) (by kernel_rfl)
/- impl.Forgets -/
def p_impl_Forgets (x0 x1 : AV) : Prog := .op (.len 0 x0) fun v1 => .loop [AV.nils, AV.int .i64 0] (fun vs2 => .op (.bin 0 .lss (g vs2 1) v1) fun v4 => .ite v4 (.op (.idx 3 x0 (g vs2 1)) fun v5 => .op (.ldn 3 v5) fun v6 => .op (.alloc [AV.int .i64 0, AV.int .i64 0, AV.bool false]) fun v7 => .op (.st 3 v7 v6) fun v8 => .op (.fad 0 v7) fun v9 => .op (.ld1 v9) fun v10 => .op (.call n_impl_verdictAt [x1, v10]) fun v11 => .op (.bin 0 .lss v11 (AV.int .i64 0)) fun v12 => .scope (.ite v12 (.op (.fad 0 v7) fun v13 => .op (.ld1 v13) fun v14 => .op (.bslice 1 1 [AV.int .i64 0] [(0, 1, v14)]) fun v15 => .op (.app 1 8 (g vs2 0) v15) fun v16 => .leaf 0 [v16]) (.leaf 0 [g vs2 0])) (fun vs17 => .op (.bin 0 .add (g vs2 1) (AV.int .i64 1)) fun v19 => .leaf 0 [g vs17 0, v19]) fun t18 vs17 => tsel t18 1 (.leaf 1 vs17) .bad) (.leaf 2 [g vs2 0, g vs2 1])) fun t3 vs2 => tsel t3 1 (.leaf 1 vs2) (tsel t3 2 (.fin [.val (g vs2 0)]) .bad)
theorem c_impl_Forgets (x0 x1 : AV) : CC Try.prog n_impl_Forgets [x0, x1] (p_impl_Forgets x0 x1) := cc Try.func50 [1, 5, 8, 9, 10] (fun _ => []) (by kernel_rfl)
/- spec.Forgets -/
def p_spec_Forgets (x0 x1 : AV) : Prog := .op (.bslice 1 0 [] []) fun v1 => .loop [v1, AV.int .i64 0] (fun vs2 => .op (.len 0 x0) fun v4 => .op (.bin 0 .lss (g vs2 1) v4) fun v5 => .ite v5 (.op (.idx 3 x0 (g vs2 1)) fun v6 => .op (.fad 0 v6) fun v7 => .op (.ld1 v7) fun v8 => .op (.call n_spec_VerdictOf [x1, v8]) fun v9 => .op (.ext v9 0) fun v10 => .op (.ext v9 1) fun v11 => .op (.alloc [AV.int .i64 0, AV.int .i64 0, AV.bool false]) fun v12 => .op (.st 3 v12 v10) fun v13 => .op (.una .not v11) fun v14 => .scope (.ite v14 (.op (.idx 3 x0 (g vs2 1)) fun v15 => .op (.fad 0 v15) fun v16 => .op (.ld1 v16) fun v17 => .op (.bslice 1 1 [AV.int .i64 0] [(0, 1, v17)]) fun v18 => .op (.app 1 8 (g vs2 0) v18) fun v19 => .leaf 0 [v19]) (.leaf 0 [g vs2 0])) (fun vs20 => .op (.bin 0 .add (g vs2 1) (AV.int .i64 1)) fun v22 => .leaf 0 [g vs20 0, v22]) fun t21 vs20 => tsel t21 1 (.leaf 1 vs20) .bad) (.leaf 2 [g vs2 0, g vs2 1])) fun t3 vs2 => tsel t3 1 (.leaf 1 vs2) (tsel t3 2 (.fin [.val (g vs2 0)]) .bad)
theorem c_spec_Forgets (x0 x1 : AV) : CC Try.prog n_spec_Forgets [x0, x1] (p_spec_Forgets x0 x1) := cc Try.func51 [0, 1, 5, 6] (fun _ => []) (by kernel_rfl)
/- impl.Remember$1 -/
def p_impl_Remember_1 (x0 x1 : AV) : Prog := .op (.box x0) fun v1 => .op (.fad 0 v1) fun v2 => .op (.ld1 v2) fun v3 => .op (.fad 0 x1) fun v4 => .op (.ld1 v4) fun v5 => .op (.bin 0 .eql v3 v5) fun v6 => .fin [.val v6]
theorem c_impl_Remember_1 (x0 x1 : AV) : CC Try.prog n_impl_Remember_1 [x0, x1] (p_impl_Remember_1 x0 x1) := cc Try.func150 [] (fun _ => []) (by kernel_rfl)
/- slices.DeleteFunc[[]impl.Verdict,impl.Verdict] -/
def p_slices_DeleteFunc_Verdict (x0 x1 : AV) : Prog := .op (.call n_slices_IndexFunc_Verdict [x0, x1]) fun v1 => .op (.bin 0 .eql v1 (AV.int .i64 (-1))) fun v2 => .ite v2 (.fin [.val x0]) (.op (.bin 0 .add v1 (AV.int .i64 1)) fun v3 => .loop [v1, v3] (fun vs4 => .op (.len 0 x0) fun v6 => .op (.bin 0 .lss (g vs4 1) v6) fun v7 => .ite v7 (.op (.idx 3 x0 (g vs4 1)) fun v8 => .op (.ldn 3 v8) fun v9 => .op (.alloc [AV.int .i64 0, AV.int .i64 0, AV.bool false]) fun v10 => .op (.st 3 v10 v9) fun v11 => .op (.ldn 3 v10) fun v12 => .op (.callv x1 [v12]) fun v13 => .op (.una .not v13) fun v14 => .scope (.ite v14 (.op (.ldn 3 v10) fun v15 => .op (.idx 3 x0 (g vs4 0)) fun v16 => .op (.st 3 v16 v15) fun v17 => .op (.bin 0 .add (g vs4 0) (AV.int .i64 1)) fun v18 => .leaf 0 [v18]) (.leaf 0 [g vs4 0])) (fun vs19 => .op (.bin 0 .add (g vs4 1) (AV.int .i64 1)) fun v21 => .leaf 0 [g vs19 0, v21]) fun t20 vs19 => tsel t20 1 (.leaf 1 vs19) .bad) (.leaf 2 [g vs4 0, g vs4 1])) fun t5 vs4 => tsel t5 1 (.leaf 1 vs4) (tsel t5 2 (.op (.slc 3 x0 (some (g vs4 0)) none none) fun v22 => .op (.clr 3 [AV.int .i64 0, AV.int .i64 0, AV.bool false] v22) fun v23 => .op (.slc 3 x0 none (some (g vs4 0)) none) fun v24 => .fin [.val v24]) .bad))
theorem c_slices_DeleteFunc_Verdict (x0 x1 : AV) : CC Try.prog n_slices_DeleteFunc_Verdict [x0, x1] (p_slices_DeleteFunc_Verdict x0 x1) := cc Try.func149 [0, 1, 5, 6] (fun _ => []) (by kernel_rfl)
/- impl.Remember -/
def p_impl_Remember (x0 x1 x2 : AV) : Prog := .op (.box x1) fun v1 => .op (.app 3 24 AV.nils x0) fun v2 => .op (.bin 0 .lss x2 (AV.int .i64 1)) fun v3 => .ite v3 (.fin [.val v2, .val (AV.int .i64 0)]) (.op (.mkfn n_impl_Remember_1 [v1]) fun v4 => .op (.call n_slices_DeleteFunc_Verdict [v2, v4]) fun v5 => .op (.ldn 3 v1) fun v6 => .op (.bslice 3 1 [AV.int .i64 0, AV.int .i64 0, AV.bool false] [(0, 3, v6)]) fun v7 => .op (.app 3 24 v5 v7) fun v8 => .loop [v8, AV.int .i64 0] (fun vs9 => .op (.len 0 (g vs9 0)) fun v11 => .op (.bin 0 .gtr v11 x2) fun v12 => .ite v12 (.op (.idx 3 (g vs9 0) (AV.int .i64 0)) fun v13 => .op (.fad 0 v13) fun v14 => .op (.ld1 v14) fun v15 => .op (.slc 3 (g vs9 0) (some (AV.int .i64 1)) none none) fun v16 => .leaf 0 [v16, v15]) (.leaf 2 [g vs9 0, g vs9 1])) fun t10 vs9 => tsel t10 1 (.leaf 1 vs9) (tsel t10 2 (.fin [.val (g vs9 0), .val (g vs9 1)]) .bad))
theorem c_impl_Remember (x0 x1 x2 : AV) : CC Try.prog n_impl_Remember [x0, x1, x2] (p_impl_Remember x0 x1 x2) := cc Try.func39 [2, 8, 9] (fun _ => []) (by kernel_rfl)
/- spec.Remember -/
def p_spec_Remember (x0 x1 x2 : AV) : Prog := .op (.box x1) fun v1 => .op (.bin 0 .lss x2 (AV.int .i64 1)) fun v2 => .ite v2 (.op (.bslice 3 0 [] []) fun v3 => .op (.app 3 24 v3 x0) fun v4 => .fin [.val v4, .val (AV.int .i64 0)]) (.op (.bslice 3 0 [] []) fun v5 => .loop [v5, AV.int .i64 0] (fun vs6 => .op (.len 0 x0) fun v8 => .op (.bin 0 .lss (g vs6 1) v8) fun v9 => .ite v9 (.op (.idx 3 x0 (g vs6 1)) fun v10 => .op (.fad 0 v10) fun v11 => .op (.ld1 v11) fun v12 => .op (.fad 0 v1) fun v13 => .op (.ld1 v13) fun v14 => .op (.bin 0 .neq v12 v14) fun v15 => .scope (.ite v15 (.op (.idx 3 x0 (g vs6 1)) fun v16 => .op (.ldn 3 v16) fun v17 => .op (.bslice 3 1 [AV.int .i64 0, AV.int .i64 0, AV.bool false] [(0, 3, v17)]) fun v18 => .op (.app 3 24 (g vs6 0) v18) fun v19 => .leaf 0 [v19]) (.leaf 0 [g vs6 0])) (fun vs20 => .op (.bin 0 .add (g vs6 1) (AV.int .i64 1)) fun v22 => .leaf 0 [g vs20 0, v22]) fun t21 vs20 => tsel t21 1 (.leaf 1 vs20) .bad) (.leaf 2 [g vs6 0, g vs6 1])) fun t7 vs6 => tsel t7 1 (.leaf 1 vs6) (tsel t7 2 (.op (.ldn 3 v1) fun v23 => .op (.bslice 3 1 [AV.int .i64 0, AV.int .i64 0, AV.bool false] [(0, 3, v23)]) fun v24 => .op (.app 3 24 (g vs6 0) v24) fun v25 => .loop [v25, AV.int .i64 0] (fun vs26 => .op (.len 0 (g vs26 0)) fun v28 => .op (.bin 0 .gtr v28 x2) fun v29 => .ite v29 (.op (.idx 3 (g vs26 0) (AV.int .i64 0)) fun v30 => .op (.fad 0 v30) fun v31 => .op (.ld1 v31) fun v32 => .op (.bslice 3 0 [] []) fun v33 => .op (.slc 3 (g vs26 0) (some (AV.int .i64 1)) none none) fun v34 => .op (.app 3 24 v33 v34) fun v35 => .leaf 0 [v35, v32]) (.leaf 4 [g vs26 0, g vs26 1])) fun t27 vs26 => tsel t27 1 (.leaf 1 vs26) (tsel t27 4 (.fin [.val (g vs26 0), .val (g vs26 1)]) .bad)) .bad))
theorem c_spec_Remember (x0 x1 x2 : AV) : CC Try.prog n_spec_Remember [x0, x1, x2] (p_spec_Remember x0 x1 x2) := cc Try.func40 [0, 2, 4, 8, 9, 10] (fun r => if r = 7 then [(0, []), (1, []), (2, []), (3, []), (4, []), (5, []), (6, []), (7, [])] else []) (by kernel_rfl)
/- laws.sameCache -/
def p_laws_sameCache (x0 x1 : AV) : Prog := .op (.len 0 x0) fun v1 => .op (.len 0 x1) fun v2 => .op (.bin 0 .neq v1 v2) fun v3 => .ite v3 (.fin [.val (AV.bool false)]) (.loop [AV.int .i64 0] (fun vs4 => .op (.len 0 x0) fun v6 => .op (.bin 0 .lss (g vs4 0) v6) fun v7 => .ite v7 (.op (.idx 3 x0 (g vs4 0)) fun v8 => .op (.ldn 3 v8) fun v9 => .op (.idx 3 x1 (g vs4 0)) fun v10 => .op (.ldn 3 v10) fun v11 => .op (.eqs [0, 0, 2] true v9 v11) fun v12 => .ite v12 (.fin [.val (AV.bool false)]) (.op (.bin 0 .add (g vs4 0) (AV.int .i64 1)) fun v13 => .leaf 0 [v13])) (.leaf 2 [g vs4 0])) fun t5 vs4 => tsel t5 1 (.leaf 1 vs4) (tsel t5 2 (.fin [.val (AV.bool true)]) .bad))
theorem c_laws_sameCache (x0 x1 : AV) : CC Try.prog n_laws_sameCache [x0, x1] (p_laws_sameCache x0 x1) := cc Try.func46 [0, 1, 5] (fun r => if r = 6 then [(0, []), (1, []), (2, []), (3, []), (4, []), (5, []), (6, []), (7, []), (8, [])] else []) (by kernel_rfl)
end
theorem idx_find {α : Type} (p : α → Bool) (xs : List α) : (idx p xs = -1 ∧ xs.find? p = none) ∨ ∃ (i : Nat) (x : α), idx p xs = i ∧ xs[i]? = some x ∧ xs.find? p = some x := by
  unfold idx
  by_cases hi : xs.findIdx p < xs.length
  · right
    refine ⟨xs.findIdx p, xs[xs.findIdx p], by rw [if_pos hi], List.getElem?_eq_getElem hi, ?_⟩
    rw [List.find?_eq_some_iff_getElem]
    exact ⟨List.findIdx_getElem, xs.findIdx p, hi, rfl, fun j hj => by simpa using List.not_of_lt_findIdx hj⟩
  · left
    refine ⟨by rw [if_neg hi], ?_⟩
    rw [List.find?_eq_none]
    have : xs.findIdx p = xs.length := by have := List.findIdx_le_length (xs := xs) (p := p); omega
    rw [List.findIdx_eq_length] at this
    intro x hx; simp [this x hx]

def vOf (xs : List Verdict) (k : Int) : Verdict × Bool := match xs.find? (isT k) with
  | some v => (v, true)
  | none => (⟨0, 0, false⟩, false)

theorem s_impl_VerdictOf {h : AH} {xs : List Verdict} {x0 : AV} {F : List Nat} {k : Int} (r : SlRep h x0 xs F) : RCalls Try.prog n_impl_VerdictOf [x0, .int .i64 k] h (.tup [.agg (vOf xs k).1.cs, .bool (vOf xs k).2]) := by
  refine reader (c_impl_VerdictOf _ _) (by simp only [old, olds, Verdict.cs, and_self]) ?_
  unfold p_impl_VerdictOf
  refine aw_alloc (aw_rcall (s_impl_verdictAt (r.ext ((Ext.refl _).push _))) ?_)
  rcases idx_find (isT k) xs with ⟨h1, h2⟩ | ⟨i, x, h1, h2, h3⟩
  · rw [h1]
    simp only [vOf, h2]
    (repeat' first|refine vs ?_|(refine br ?_ ?_<;>intro _<;>try(exfalso;first|omega|contradiction))|((with_reducible refine g_idx ?_);((first|refine ix ?_|refine ixi ?_|(refine ixg ?_;intro _ _)|(refine ixgi ?_;intro _ _));first|rintro _ _ _ _ _ ⟨rfl,rfl⟩ _|rintro _ _ _ _ _ ⟨_,rfl,_⟩ _|rintro _ _ _ _ _ ⟨_,_,_,_,rfl,rfl,_,_⟩ _|intro _ _ _ _ _ _ _))|(refine sx ?_;intro _ _)|((with_reducible refine g_awp ?_);simp only [g0,g1,g2]))
    all_goals (refine ⟨rfl, ?_, (Ext.refl _).push _⟩; first | rfl | simp [splice])
  · rw [h1]
    simp only [vOf, h3]
    (repeat' first|refine vs ?_|(refine br ?_ ?_<;>intro _<;>try(exfalso;first|omega|contradiction))|((with_reducible refine g_idx ?_);((first|refine ix ?_|refine ixi ?_|(refine ixg ?_;intro _ _)|(refine ixgi ?_;intro _ _));first|rintro _ _ _ _ _ ⟨rfl,rfl⟩ _|rintro _ _ _ _ _ ⟨_,rfl,_⟩ _|rintro _ _ _ _ _ ⟨_,_,_,_,rfl,rfl,_,_⟩ _|intro _ _ _ _ _ _ _))|(refine sx ?_;intro _ _)|((with_reducible refine g_awp ?_);simp only [g0,g1,g2]))
    all_goals (refine ⟨rfl, ?_, (Ext.refl _).push _⟩; first | rfl | simp [splice])

theorem s_spec_VerdictOf {h : AH} {xs : List Verdict} {x0 : AV} {F : List Nat} {k : Int} (r : SlRep h x0 xs F) : RCalls Try.prog n_spec_VerdictOf [x0, .int .i64 k] h (.tup [.agg (vOf xs k).1.cs, .bool (vOf xs k).2]) := by
  refine reader (c_spec_VerdictOf _ _) (by simp only [old, olds, Verdict.cs, and_self]) ?_
  unfold p_spec_VerdictOf
  have hsm := r.small
  refine aw_alloc (aw_upto xs.length (fun i vs h1 => vs = [.int .i64 (i : Int)] ∧ i ≤ xs.length ∧ h1 = h.push ⟨[.int .i64 0, .int .i64 0, .bool false], 0, 0⟩ ∧ xs.find? (isT k) = (xs.drop i).find? (isT k)) ⟨rfl, by omega, rfl, by simp⟩ ?_)
  rintro i vs h1 _ ⟨rfl, hi, rfl, hf⟩
  simp only [g0]
  refine aw_len r (aw_lss (fun hlt => ?_) (fun hge => ?_))
  · obtain ⟨x, hx, hd, _⟩ := drop_step (show i < xs.length by omega)
    rw [hd, List.find?_cons] at hf
    (repeat' first|refine vs ?_|(refine br ?_ ?_<;>intro _<;>try(exfalso;first|omega|contradiction))|((with_reducible refine g_idx ?_);((first|refine ix ?_|refine ixi ?_|(refine ixg ?_;intro _ _)|(refine ixgi ?_;intro _ _));first|rintro _ _ _ _ _ ⟨rfl,rfl⟩ _|rintro _ _ _ _ _ ⟨_,rfl,_⟩ _|rintro _ _ _ _ _ ⟨_,_,_,_,rfl,rfl,_,_⟩ _|intro _ _ _ _ _ _ _))|(refine sx ?_;intro _ _)|((with_reducible refine g_awp ?_);simp only [g0,g1,g2]))
    · refine ⟨rfl, ?_, (Ext.refl _).push _⟩
      simp_all [vOf, isT, splice, Verdict.cs]
    · refine ⟨by omega, rfl, by omega, rfl, ?_⟩
      simp_all [isT]
  · have : i = xs.length := by omega
    subst this
    simp at hf
    (repeat' first|refine vs ?_|(refine br ?_ ?_<;>intro _<;>try(exfalso;first|omega|contradiction))|((with_reducible refine g_idx ?_);((first|refine ix ?_|refine ixi ?_|(refine ixg ?_;intro _ _)|(refine ixgi ?_;intro _ _));first|rintro _ _ _ _ _ ⟨rfl,rfl⟩ _|rintro _ _ _ _ _ ⟨_,rfl,_⟩ _|rintro _ _ _ _ _ ⟨_,_,_,_,rfl,rfl,_,_⟩ _|intro _ _ _ _ _ _ _))|(refine sx ?_;intro _ _)|((with_reducible refine g_awp ?_);simp only [g0,g1,g2]))
    refine ⟨rfl, ?_, (Ext.refl _).push _⟩
    have : xs.find? (isT k) = none := by simpa using hf
    simp [vOf, this, splice, Verdict.cs]

def fgt (ys : List Verdict) (v : Verdict) : Bool := (ys.find? (isT v.trace)).isNone
def forgets (xs ys : List Verdict) : List Int := (xs.filter (fgt ys)).map (·.trace)
theorem forgets_snoc (xs ys : List Verdict) (x : Verdict) : forgets (xs ++ [x]) ys = if fgt ys x = true then forgets xs ys ++ [x.trace] else forgets xs ys := by
  unfold forgets
  by_cases h : fgt ys x = true <;> simp [List.filter_append, h]
theorem forgets_len (xs ys : List Verdict) : (forgets xs ys).length ≤ xs.length := by
  unfold forgets; simp [List.length_filter_le]

theorem s_impl_Forgets {h : AH} {xs ys : List Verdict} {x0 x1 : AV} {F G : List Nat} (r : SlRep h x0 xs F) (r' : SlRep h x1 ys G) (hsz : xs.length ≤ 1048576) : ACalls Try.prog n_impl_Forgets [x0, x1] h (NewS Int h (forgets xs ys)) := by
  refine c_impl_Forgets _ _ ?_
  unfold p_impl_Forgets
  refine aw_len r (aw_upto xs.length (fun i vs h1 => ∃ va F', vs = [va, .int .i64 (i : Int)] ∧ i ≤ xs.length ∧ Ext h h1 ∧ SlRep h1 va (forgets (xs.take i) ys) F' ∧ Own h.n h1 F') ⟨.nils, [], rfl, by omega, Ext.refl _, by simpa [forgets] using SlRep.nils, Own.nil⟩ ?_)
  rintro i vs h1 _ ⟨va, F', rfl, hi, e, ra, oa⟩
  simp only [g0, g1]
  refine aw_lss (fun hlt => ?_) (fun hge => ?_)
  · obtain ⟨x, hx, _, htk⟩ := drop_step (show i < xs.length by omega)
    have hfl := forgets_len (xs.take i) ys
    have htl : (xs.take i).length = i := by simp; omega
    (repeat' first|refine vs ?_|(refine br ?_ ?_<;>intro _<;>try(exfalso;first|omega|contradiction))|((with_reducible refine g_idx ?_);((first|refine ix ?_|refine ixi ?_|(refine ixg ?_;intro _ _)|(refine ixgi ?_;intro _ _));first|rintro _ _ _ _ _ ⟨rfl,rfl⟩ _|rintro _ _ _ _ _ ⟨_,rfl,_⟩ _|rintro _ _ _ _ _ ⟨_,_,_,_,rfl,rfl,_,_⟩ _|intro _ _ _ _ _ _ _))|(refine sx ?_;intro _ _)|((with_reducible refine g_awp ?_);simp only [g0,g1,g2]))
    refine aw_rcall (s_impl_verdictAt (r'.ext ext_auto)) ?_
    rcases idx_find (isT x.trace) ys with ⟨h2, h3⟩ | ⟨j, y, h2, h3, h4⟩
    · rw [h2]
      (repeat' first|refine vs ?_|(refine br ?_ ?_<;>intro _<;>try(exfalso;first|omega|contradiction))|((with_reducible refine g_idx ?_);((first|refine ix ?_|refine ixi ?_|(refine ixg ?_;intro _ _)|(refine ixgi ?_;intro _ _));first|rintro _ _ _ _ _ ⟨rfl,rfl⟩ _|rintro _ _ _ _ _ ⟨_,rfl,_⟩ _|rintro _ _ _ _ _ ⟨_,_,_,_,rfl,rfl,_,_⟩ _|intro _ _ _ _ _ _ _))|(refine sx ?_;intro _ _)|((with_reducible refine g_awp ?_);simp only [g0,g1,g2]))
      refine aw_app (ra.ext ext_auto) (slrep_push (n := 1) (xs := [x.trace]) rfl (by decide) (reps_one ⟨rfl, rfl⟩)) (by simpa using oa.ext ext_auto ra.lt) (Nat.le_trans e.1 (by simp; omega)) rfl (by simp; omega) (by simp; omega) ?_
      intro v2 h2 F2 kp rv ov
      (repeat' first|refine vs ?_|(refine br ?_ ?_<;>intro _<;>try(exfalso;first|omega|contradiction))|((with_reducible refine g_idx ?_);((first|refine ix ?_|refine ixi ?_|(refine ixg ?_;intro _ _)|(refine ixgi ?_;intro _ _));first|rintro _ _ _ _ _ ⟨rfl,rfl⟩ _|rintro _ _ _ _ _ ⟨_,rfl,_⟩ _|rintro _ _ _ _ _ ⟨_,_,_,_,rfl,rfl,_,_⟩ _|intro _ _ _ _ _ _ _))|(refine sx ?_;intro _ _)|((with_reducible refine g_awp ?_);simp only [g0,g1,g2]))
      refine ⟨by omega, v2, F2, rfl, by omega, kp.ext ext_auto fun b hb => (oa.2 b hb).1, ?_, ov⟩
      rw [htk, forgets_snoc, if_pos (by simp [fgt, h3])]; exact rv
    · rw [h2]
      (repeat' first|refine vs ?_|(refine br ?_ ?_<;>intro _<;>try(exfalso;first|omega|contradiction))|((with_reducible refine g_idx ?_);((first|refine ix ?_|refine ixi ?_|(refine ixg ?_;intro _ _)|(refine ixgi ?_;intro _ _));first|rintro _ _ _ _ _ ⟨rfl,rfl⟩ _|rintro _ _ _ _ _ ⟨_,rfl,_⟩ _|rintro _ _ _ _ _ ⟨_,_,_,_,rfl,rfl,_,_⟩ _|intro _ _ _ _ _ _ _))|(refine sx ?_;intro _ _)|((with_reducible refine g_awp ?_);simp only [g0,g1,g2]))
      refine ⟨by omega, va, F', rfl, by omega, ext_auto, ?_, oa.ext ext_auto ra.lt⟩
      rw [htk, forgets_snoc, if_neg (by simp [fgt, h4])]; exact ra.ext ext_auto
  · have : i = xs.length := by omega
    subst this
    rw [List.take_length] at ra
    (repeat' first|refine vs ?_|(refine br ?_ ?_<;>intro _<;>try(exfalso;first|omega|contradiction))|((with_reducible refine g_idx ?_);((first|refine ix ?_|refine ixi ?_|(refine ixg ?_;intro _ _)|(refine ixgi ?_;intro _ _));first|rintro _ _ _ _ _ ⟨rfl,rfl⟩ _|rintro _ _ _ _ _ ⟨_,rfl,_⟩ _|rintro _ _ _ _ _ ⟨_,_,_,_,rfl,rfl,_,_⟩ _|intro _ _ _ _ _ _ _))|(refine sx ?_;intro _ _)|((with_reducible refine g_awp ?_);simp only [g0,g1,g2]))
    exact ⟨rfl, va, rfl, e, F', ra, oa⟩

theorem s_spec_Forgets {h : AH} {xs ys : List Verdict} {x0 x1 : AV} {F G : List Nat} (r : SlRep h x0 xs F) (r' : SlRep h x1 ys G) (hsz : xs.length ≤ 1048576) : ACalls Try.prog n_spec_Forgets [x0, x1] h (NewS Int h (forgets xs ys)) := by
  refine c_spec_Forgets _ _ ?_
  unfold p_spec_Forgets
  refine aw_bslice rfl (by decide) rfl ?_
  have rn : SlRep (h.push ⟨[], 1, 0⟩) (.sl h.n 0 0) ([] : List Int) [h.n] := slrep_push (n := 0) rfl (by decide) ⟨rfl, rfl⟩
  refine aw_upto xs.length (fun i vs h1 => ∃ va F', vs = [va, .int .i64 (i : Int)] ∧ i ≤ xs.length ∧ Ext h h1 ∧ SlRep h1 va (forgets (xs.take i) ys) F' ∧ Own h.n h1 F') ⟨.sl h.n 0 0, [h.n], rfl, by omega, (Ext.refl _).push _, by simpa [forgets] using rn, own_push (Nat.le_refl _) rfl (by simp) Own.nil⟩ ?_
  rintro i vs h1 _ ⟨va, F', rfl, hi, e, ra, oa⟩
  simp only [g0, g1]
  refine aw_len r (aw_lss (fun hlt => ?_) (fun hge => ?_))
  · obtain ⟨x, hx, _, htk⟩ := drop_step (show i < xs.length by omega)
    have hfl := forgets_len (xs.take i) ys
    have htl : (xs.take i).length = i := by simp; omega
    (repeat' first|refine vs ?_|(refine br ?_ ?_<;>intro _<;>try(exfalso;first|omega|contradiction))|((with_reducible refine g_idx ?_);((first|refine ix ?_|refine ixi ?_|(refine ixg ?_;intro _ _)|(refine ixgi ?_;intro _ _));first|rintro _ _ _ _ _ ⟨rfl,rfl⟩ _|rintro _ _ _ _ _ ⟨_,rfl,_⟩ _|rintro _ _ _ _ _ ⟨_,_,_,_,rfl,rfl,_,_⟩ _|intro _ _ _ _ _ _ _))|(refine sx ?_;intro _ _)|((with_reducible refine g_awp ?_);simp only [g0,g1,g2]))
    refine aw_rcall (s_spec_VerdictOf (r'.ext ext_auto)) ?_
    (repeat' first|refine vs ?_|(refine br ?_ ?_<;>intro _<;>try(exfalso;first|omega|contradiction))|((with_reducible refine g_idx ?_);((first|refine ix ?_|refine ixi ?_|(refine ixg ?_;intro _ _)|(refine ixgi ?_;intro _ _));first|rintro _ _ _ _ _ ⟨rfl,rfl⟩ _|rintro _ _ _ _ _ ⟨_,rfl,_⟩ _|rintro _ _ _ _ _ ⟨_,_,_,_,rfl,rfl,_,_⟩ _|intro _ _ _ _ _ _ _))|(refine sx ?_;intro _ _)|((with_reducible refine g_awp ?_);simp only [g0,g1,g2]))
    · have hb : (!(vOf ys x.trace).2) = true := by assumption
      refine aw_app (ra.ext ext_auto) (slrep_push (n := 1) (xs := [x.trace]) rfl (by decide) (reps_one ⟨rfl, rfl⟩)) (by simpa using oa.ext ext_auto ra.lt) (Nat.le_trans e.1 (by simp; omega)) rfl (by simp; omega) (by simp; omega) ?_
      intro v2 h2 F2 kp rv ov
      (repeat' first|refine vs ?_|(refine br ?_ ?_<;>intro _<;>try(exfalso;first|omega|contradiction))|((with_reducible refine g_idx ?_);((first|refine ix ?_|refine ixi ?_|(refine ixg ?_;intro _ _)|(refine ixgi ?_;intro _ _));first|rintro _ _ _ _ _ ⟨rfl,rfl⟩ _|rintro _ _ _ _ _ ⟨_,rfl,_⟩ _|rintro _ _ _ _ _ ⟨_,_,_,_,rfl,rfl,_,_⟩ _|intro _ _ _ _ _ _ _))|(refine sx ?_;intro _ _)|((with_reducible refine g_awp ?_);simp only [g0,g1,g2]))
      refine ⟨by omega, v2, F2, rfl, by omega, kp.ext ext_auto fun b hb => (oa.2 b hb).1, ?_, ov⟩
      have : fgt ys x = true := by
        simp only [vOf] at hb
        unfold fgt
        split at hb <;> simp_all
      rw [htk, forgets_snoc, if_pos this]; exact rv
    · have hb : (!(vOf ys x.trace).2) = false := by assumption
      refine ⟨by omega, va, F', rfl, by omega, ext_auto, ?_, oa.ext ext_auto ra.lt⟩
      have : ¬ fgt ys x = true := by
        simp only [vOf] at hb
        unfold fgt
        split at hb <;> simp_all
      rw [htk, forgets_snoc, if_neg this]; exact ra.ext ext_auto
  · have : i = xs.length := by omega
    subst this
    rw [List.take_length] at ra
    (repeat' first|refine vs ?_|(refine br ?_ ?_<;>intro _<;>try(exfalso;first|omega|contradiction))|((with_reducible refine g_idx ?_);((first|refine ix ?_|refine ixi ?_|(refine ixg ?_;intro _ _)|(refine ixgi ?_;intro _ _));first|rintro _ _ _ _ _ ⟨rfl,rfl⟩ _|rintro _ _ _ _ _ ⟨_,rfl,_⟩ _|rintro _ _ _ _ _ ⟨_,_,_,_,rfl,rfl,_,_⟩ _|intro _ _ _ _ _ _ _))|(refine sx ?_;intro _ _)|((with_reducible refine g_awp ?_);simp only [g0,g1,g2]))
    exact ⟨rfl, va, rfl, e, F', ra, oa⟩

theorem tail_flat {α : Type} [Flat α] {h : AH} {v : AV} {xs : List α} {F : List Nat} (r : SlRep h v xs F) : F.tail = [] := by
  rcases r.flat with ⟨_, _, rfl⟩ | ⟨b, _, _, _, rfl, _⟩ <;> rfl

def keepers (xs : List Verdict) (v : Verdict) : List Verdict := (xs.filter fun x => !isT v.trace x) ++ [v]
/-- Behind 'd' that are forgotten. -/
def gone (l : List Verdict) (d : Nat) : Int := match d with
  | 0 => 0
  | d + 1 => match l[d]? with
    | some v => v.trace
    | none => 0
def rem (xs : List Verdict) (v : Verdict) (most : Int) : List Verdict × Int :=
  if most < 1 then (xs, 0) else ((keepers xs v).drop ((keepers xs v).length - most.toNat), gone (keepers xs v) ((keepers xs v).length - most.toNat))

theorem s_impl_Remember_1 {h : AH} {b : Nat} {v : Verdict} (a : At h b 0 v.cs) : Looks Verdict Try.prog h n_impl_Remember_1 [.ptr b 0] (isT v.trace) := by
  rintro x cs F ⟨rfl, rfl⟩
  refine reader (c_impl_Remember_1 _ _) (by simp only [old]) ?_
  unfold p_impl_Remember_1
  refine aw_box rfl ?_
  (repeat' first|refine vs ?_|(refine br ?_ ?_<;>intro _<;>try(exfalso;first|omega|contradiction))|((with_reducible refine g_idx ?_);((first|refine ix ?_|refine ixi ?_|(refine ixg ?_;intro _ _)|(refine ixgi ?_;intro _ _));first|rintro _ _ _ _ _ ⟨rfl,rfl⟩ _|rintro _ _ _ _ _ ⟨_,rfl,_⟩ _|rintro _ _ _ _ _ ⟨_,_,_,_,rfl,rfl,_,_⟩ _|intro _ _ _ _ _ _ _))|(refine sx ?_;intro _ _)|((with_reducible refine g_awp ?_);simp only [g0,g1,g2]))
  all_goals (refine ⟨rfl, ?_, ext_auto⟩; simp [isT, *])

theorem s_slices_DeleteFunc_Verdict {h : AH} {n : Nat} {xs : List Verdict} {x0 : AV} {F : List Nat} {f : FuncId} {caps : List AV} {p : Verdict → Bool} (r : SlRep h x0 xs F) (o : Own n h F) (hf : ∀ h', Kp h h' F → Looks Verdict Try.prog h' f caps p) :
    ACalls Try.prog n_slices_DeleteFunc_Verdict [x0, .fn f caps] h fun u h' => Kp h h' F ∧ SlRep h' u (xs.filter fun x => !p x) F ∧ Own n h' F :=
  c_slices_DeleteFunc_Verdict _ _ (delF_spec (w := 3) rfl rfl r o (s_slices_IndexFunc_Verdict r (hf h (Kp.refl _ _))) hf)

theorem gone_succ {l : List Verdict} {d : Nat} {x : Verdict} (hx : l[d]? = some x) : gone l (d + 1) = x.trace := by simp [gone, hx]

theorem s_impl_Remember {h : AH} {xs : List Verdict} {x0 : AV} {F : List Nat} {v : Verdict} {m : Int} (r : SlRep h x0 xs F) (hsz : xs.length ≤ 1048576) :
    ACalls Try.prog n_impl_Remember [x0, .agg v.cs, .int .i64 m] h fun u h' => Ext h h' ∧ ∃ u0 F', u = .tup [u0, .int .i64 (rem xs v m).2] ∧ SlRep h' u0 (rem xs v m).1 F' ∧ Own h.n h' F' := by
  refine c_impl_Remember _ _ _ ?_
  unfold p_impl_Remember
  refine aw_box rfl ?_
  refine aw_app (n := h.n + 1) SlRep.nils (r.ext ((Ext.refl _).push _)) (by rw [tail_flat r]; exact Own.nil) (by simp) rfl (by simp; omega) (by simp; omega) ?_
  intro v1 h1 F1 k1 r1 o1
  have e1 : Ext h h1 := k1.ext ((Ext.refl h).push _) (by simp)
  have e1' : Ext (h.push ⟨v.cs, 0, 0⟩) h1 := k1.ext (Ext.refl _) (by simp)
  have a1 : At h1 h.n 0 v.cs := at_push.ext e1'
  rw [List.nil_append] at r1
  have hn1 : h.n + 1 ≤ h1.n := e1'.1
  have up : ∀ {h' : AH}, Kp h1 h' F1 → Ext (h.push ⟨v.cs, 0, 0⟩) h' := fun kp => kp.ext e1' fun b hb => (o1.2 b hb).1
  (repeat' first|refine vs ?_|(refine br ?_ ?_<;>intro _<;>try(exfalso;first|omega|contradiction))|((with_reducible refine g_idx ?_);((first|refine ix ?_|refine ixi ?_|(refine ixg ?_;intro _ _)|(refine ixgi ?_;intro _ _));first|rintro _ _ _ _ _ ⟨rfl,rfl⟩ _|rintro _ _ _ _ _ ⟨_,rfl,_⟩ _|rintro _ _ _ _ _ ⟨_,_,_,_,rfl,rfl,_,_⟩ _|intro _ _ _ _ _ _ _))|(refine sx ?_;intro _ _)|((with_reducible refine g_awp ?_);simp only [g0,g1,g2]))
  · rename_i hm
    refine ⟨rfl, _, rfl, e1, v1, F1, ?_, ?_, o1.mono (by omega) fun _ _ => rfl⟩
    · simp [rem, hm]
    · simpa [rem, hm] using r1
  · rename_i hm
    refine aw_call (s_slices_DeleteFunc_Verdict (p := isT v.trace) r1 o1 fun h' kp => s_impl_Remember_1 (at_push.ext (up kp))) ?_
    rintro v2 h2 ⟨k2, r2, o2⟩
    have e2 := up k2
    have a2 : At h2 h.n 0 v.cs := at_push.ext e2
    have hfl : (xs.filter fun x => !isT v.trace x).length ≤ xs.length := List.length_filter_le _ _
    clear e1 e1' a1
    (repeat' first|refine vs ?_|(refine br ?_ ?_<;>intro _<;>try(exfalso;first|omega|contradiction))|((with_reducible refine g_idx ?_);((first|refine ix ?_|refine ixi ?_|(refine ixg ?_;intro _ _)|(refine ixgi ?_;intro _ _));first|rintro _ _ _ _ _ ⟨rfl,rfl⟩ _|rintro _ _ _ _ _ ⟨_,rfl,_⟩ _|rintro _ _ _ _ _ ⟨_,_,_,_,rfl,rfl,_,_⟩ _|intro _ _ _ _ _ _ _))|(refine sx ?_;intro _ _)|((with_reducible refine g_awp ?_);simp only [g0,g1,g2]))
    refine aw_app (n := h.n + 1) (r2.ext ext_auto) (slrep_push (n := 1) (xs := [v]) rfl (by decide) (reps_one ⟨rfl, rfl⟩)) (by simpa using o2.ext ext_auto r2.lt) (by have := e2.1; simp at this ⊢; omega) rfl (by simp; omega) (by simp; omega) ?_
    intro v3 h3 F3 k3 r3 o3
    have e3 : Ext h h3 := k3.ext (Ext.trans ((Ext.refl h).push _) (e2.push _)) fun b hb => by have := (o2.2 b hb).1; omega
    have hL : (keepers xs v).length ≤ 1048577 := by simp [keepers]; omega
    change SlRep h3 v3 (keepers xs v) F3 at r3
    refine aw_loop (fun k vs h4 => ∃ d va F4, vs = [va, .int .i64 (gone (keepers xs v) d)] ∧ k = (keepers xs v).length - d ∧ d ≤ (keepers xs v).length - m.toNat ∧ Ext h h4 ∧ SlRep h4 va ((keepers xs v).drop d) F4 ∧ Own h.n h4 F4) (keepers xs v).length ⟨0, v3, F3, rfl, rfl, by omega, e3, r3, o3.mono (by omega) fun _ _ => rfl⟩ ?_
    rintro k vs h4 ⟨d, va, F4, rfl, rfl, hd, e4, r4, o4⟩
    simp only [g0, g1]
    refine aw_len r4 ?_
    rw [List.length_drop]
    refine aw_gtr (fun hgt => ?_) (fun hle => ?_)
    · obtain ⟨x, hx, hdr, _⟩ := drop_step (show d < (keepers xs v).length by omega)
      rw [hdr] at r4
      have h0 : (x :: (keepers xs v).drop (d + 1))[(0 : Int).toNat]? = some x := rfl
      refine aw_ite_t (aw_idxi r4 (by decide) h0 rfl ?_)
      rintro b o cs Fi a5 ⟨rfl, rfl⟩ _
      (repeat' first|refine vs ?_|(refine br ?_ ?_<;>intro _<;>try(exfalso;first|omega|contradiction))|((with_reducible refine g_idx ?_);((first|refine ix ?_|refine ixi ?_|(refine ixg ?_;intro _ _)|(refine ixgi ?_;intro _ _));first|rintro _ _ _ _ _ ⟨rfl,rfl⟩ _|rintro _ _ _ _ _ ⟨_,rfl,_⟩ _|rintro _ _ _ _ _ ⟨_,_,_,_,rfl,rfl,_,_⟩ _|intro _ _ _ _ _ _ _))|(refine sx ?_;intro _ _)|((with_reducible refine g_awp ?_);simp only [g0,g1,g2]))
      refine aw_tail rfl r4 o4 fun u r5 => ?_
      (repeat' first|refine vs ?_|(refine br ?_ ?_<;>intro _<;>try(exfalso;first|omega|contradiction))|((with_reducible refine g_idx ?_);((first|refine ix ?_|refine ixi ?_|(refine ixg ?_;intro _ _)|(refine ixgi ?_;intro _ _));first|rintro _ _ _ _ _ ⟨rfl,rfl⟩ _|rintro _ _ _ _ _ ⟨_,rfl,_⟩ _|rintro _ _ _ _ _ ⟨_,_,_,_,rfl,rfl,_,_⟩ _|intro _ _ _ _ _ _ _))|(refine sx ?_;intro _ _)|((with_reducible refine g_awp ?_);simp only [g0,g1,g2]))
      refine ⟨_, ?_, d + 1, u, F4, by rw [gone_succ hx], rfl, by omega, e4, r5, o4⟩
      omega
    · have hde : d = (keepers xs v).length - m.toNat := by omega
      (repeat' first|refine vs ?_|(refine br ?_ ?_<;>intro _<;>try(exfalso;first|omega|contradiction))|((with_reducible refine g_idx ?_);((first|refine ix ?_|refine ixi ?_|(refine ixg ?_;intro _ _)|(refine ixgi ?_;intro _ _));first|rintro _ _ _ _ _ ⟨rfl,rfl⟩ _|rintro _ _ _ _ _ ⟨_,rfl,_⟩ _|rintro _ _ _ _ _ ⟨_,_,_,_,rfl,rfl,_,_⟩ _|intro _ _ _ _ _ _ _))|(refine sx ?_;intro _ _)|((with_reducible refine g_awp ?_);simp only [g0,g1,g2]))
      refine ⟨rfl, _, rfl, e4, va, F4, ?_, ?_, o4⟩
      · rw [hde]; simp [rem, hm, g]
      · rw [hde] at r4; simpa [rem, hm] using r4

theorem s_spec_Remember {h : AH} {xs : List Verdict} {x0 : AV} {F : List Nat} {v : Verdict} {m : Int} (r : SlRep h x0 xs F) (hsz : xs.length ≤ 1048576) :
    ACalls Try.prog n_spec_Remember [x0, .agg v.cs, .int .i64 m] h fun u h' => Ext h h' ∧ ∃ u0 F', u = .tup [u0, .int .i64 (rem xs v m).2] ∧ SlRep h' u0 (rem xs v m).1 F' ∧ Own h.n h' F' := by
  refine c_spec_Remember _ _ _ ?_
  unfold p_spec_Remember
  refine aw_box rfl ?_
  have hf := tail_flat r
  refine aw_lss (fun hm => aw_ite_t ?_) (fun hm => aw_ite_f ?_)
  · refine aw_bslice rfl (by decide) rfl ?_
    obtain ⟨re, oe⟩ := empty_own (h := h.push ⟨v.cs, 0, 0⟩) (α := Verdict) (w := 3) rfl
    refine aw_app (n := h.n + 1) re (r.ext ext_auto) (by rw [hf]; simpa using oe (h.n + 1) (by simp)) (by simp) rfl (by simp; omega) (by simp; omega) ?_
    intro v1 h1 F1 k1 r1 o1
    refine aw_fin2 ⟨rfl, _, rfl, k1.ext ext_auto (by simp), v1, F1, ?_, ?_, o1.mono (by omega) fun _ _ => rfl⟩
    · simp [rem, hm]
    · simpa [rem, hm] using r1
  · refine aw_bslice rfl (by decide) rfl ?_
    obtain ⟨re, oe⟩ := empty_own (h := h.push ⟨v.cs, 0, 0⟩) (α := Verdict) (w := 3) rfl
    refine aw_upto xs.length (fun i vs h1 => ∃ va F', vs = [va, .int .i64 (i : Int)] ∧ i ≤ xs.length ∧ Ext (h.push ⟨v.cs, 0, 0⟩) h1 ∧ SlRep h1 va ((xs.take i).filter fun x => !isT v.trace x) F' ∧ Own (h.n + 1) h1 F') ⟨_, _, rfl, by omega, ext_auto, re, oe _ (by simp)⟩ ?_
    rintro i vs h1 _ ⟨va, F', rfl, hi, e, ra, oa⟩
    simp only [g0, g1]
    have a1 : At h1 h.n 0 v.cs := at_push.ext e
    have E1 : Ext h h1 := Ext.trans ((Ext.refl h).push _) e
    refine aw_len r (aw_lss (fun hlt => ?_) (fun hge => ?_))
    · obtain ⟨x, hx, _, htk⟩ := drop_step (show i < xs.length by omega)
      have hfl : ((xs.take i).filter fun x => !isT v.trace x).length ≤ (xs.take i).length := List.length_filter_le _ _
      have htl : (xs.take i).length = i := by simp; omega
      have hn1 := e.1
      have hE : (xs.take (i + 1)).filter (fun x => !isT v.trace x) = (xs.take i).filter (fun x => !isT v.trace x) ++ (if isT v.trace x = true then [] else [x]) := by
        rw [htk, List.filter_append]; by_cases hh : isT v.trace x = true <;> simp [hh]
      (repeat' first|refine vs ?_|(refine br ?_ ?_<;>intro _<;>try(exfalso;first|omega|contradiction))|((with_reducible refine g_idx ?_);((first|refine ix ?_|refine ixi ?_|(refine ixg ?_;intro _ _)|(refine ixgi ?_;intro _ _));first|rintro _ _ _ _ _ ⟨rfl,rfl⟩ _|rintro _ _ _ _ _ ⟨_,rfl,_⟩ _|rintro _ _ _ _ _ ⟨_,_,_,_,rfl,rfl,_,_⟩ _|intro _ _ _ _ _ _ _))|(refine sx ?_;intro _ _)|((with_reducible refine g_awp ?_);simp only [g0,g1,g2]))
      · rename_i hne _ _ _ _
        refine aw_app (n := h.n + 1) (ra.ext ext_auto) (slrep_push (n := 1) (xs := [x]) rfl (by decide) (reps_one ⟨rfl, rfl⟩)) (by simpa using oa.ext ext_auto ra.lt) (by simp at hn1 ⊢; omega) rfl (by simp; omega) (by simp; omega) ?_
        intro v2 h2 F2 kp rv ov
        (repeat' first|refine vs ?_|(refine br ?_ ?_<;>intro _<;>try(exfalso;first|omega|contradiction))|((with_reducible refine g_idx ?_);((first|refine ix ?_|refine ixi ?_|(refine ixg ?_;intro _ _)|(refine ixgi ?_;intro _ _));first|rintro _ _ _ _ _ ⟨rfl,rfl⟩ _|rintro _ _ _ _ _ ⟨_,rfl,_⟩ _|rintro _ _ _ _ _ ⟨_,_,_,_,rfl,rfl,_,_⟩ _|intro _ _ _ _ _ _ _))|(refine sx ?_;intro _ _)|((with_reducible refine g_awp ?_);simp only [g0,g1,g2]))
        refine ⟨by omega, v2, F2, rfl, by omega, kp.ext (Ext.trans e ((Ext.refl _).push _)) fun b hb => by have := (oa.2 b hb).1; simpa using this, ?_, ov⟩
        rw [hE]
        have : ¬ isT v.trace x = true := by simp [isT]; assumption
        rw [if_neg this]; exact rv
      · refine ⟨by omega, va, F', rfl, by omega, e, ?_, oa⟩
        rw [hE]
        have : isT v.trace x = true := by simp [isT]; assumption
        rw [if_pos this, List.append_nil]; exact ra
    · have : i = xs.length := by omega
      subst this
      rw [List.take_length] at ra
      have hfl : (xs.filter fun x => !isT v.trace x).length ≤ xs.length := List.length_filter_le _ _
      have hn1 := e.1
      (repeat' first|refine vs ?_|(refine br ?_ ?_<;>intro _<;>try(exfalso;first|omega|contradiction))|((with_reducible refine g_idx ?_);((first|refine ix ?_|refine ixi ?_|(refine ixg ?_;intro _ _)|(refine ixgi ?_;intro _ _));first|rintro _ _ _ _ _ ⟨rfl,rfl⟩ _|rintro _ _ _ _ _ ⟨_,rfl,_⟩ _|rintro _ _ _ _ _ ⟨_,_,_,_,rfl,rfl,_,_⟩ _|intro _ _ _ _ _ _ _))|(refine sx ?_;intro _ _)|((with_reducible refine g_awp ?_);simp only [g0,g1,g2]))
      refine aw_app (n := h.n + 1) (ra.ext ext_auto) (slrep_push (n := 1) (xs := [v]) rfl (by decide) (reps_one ⟨rfl, rfl⟩)) (by simpa using oa.ext ext_auto ra.lt) (by simp at hn1 ⊢; omega) rfl (by simp; omega) (by simp; omega) ?_
      intro v3 h3 F3 k3 r3 o3
      have e3 : Ext h h3 := k3.ext (Ext.trans E1 ((Ext.refl _).push _)) fun b hb => by have := (oa.2 b hb).1; omega
      have hL : (keepers xs v).length ≤ 1048577 := by simp [keepers]; omega
      change SlRep h3 v3 (keepers xs v) F3 at r3
      refine aw_loop (fun k vs h4 => ∃ d va F4, vs = [va, .int .i64 (gone (keepers xs v) d)] ∧ k = (keepers xs v).length - d ∧ d ≤ (keepers xs v).length - m.toNat ∧ Ext h h4 ∧ SlRep h4 va ((keepers xs v).drop d) F4 ∧ Own h.n h4 F4) (keepers xs v).length ⟨0, v3, F3, rfl, rfl, by omega, e3, r3, o3.mono (by omega) fun _ _ => rfl⟩ ?_
      rintro k vs h4 ⟨d, va, F4, rfl, rfl, hd, e4, r4, o4⟩
      simp only [g0, g1]
      refine aw_len r4 ?_
      rw [List.length_drop]
      refine aw_gtr (fun hgt => ?_) (fun hle => ?_)
      · obtain ⟨x, hx, hdr, _⟩ := drop_step (show d < (keepers xs v).length by omega)
        rw [hdr] at r4
        have h0 : (x :: (keepers xs v).drop (d + 1))[(0 : Int).toNat]? = some x := rfl
        refine aw_ite_t (aw_idxi r4 (by decide) h0 rfl ?_)
        rintro b o cs Fi a5 ⟨rfl, rfl⟩ _
        clear a1 e3 E1 e
        (repeat' first|refine vs ?_|(refine br ?_ ?_<;>intro _<;>try(exfalso;first|omega|contradiction))|((with_reducible refine g_idx ?_);((first|refine ix ?_|refine ixi ?_|(refine ixg ?_;intro _ _)|(refine ixgi ?_;intro _ _));first|rintro _ _ _ _ _ ⟨rfl,rfl⟩ _|rintro _ _ _ _ _ ⟨_,rfl,_⟩ _|rintro _ _ _ _ _ ⟨_,_,_,_,rfl,rfl,_,_⟩ _|intro _ _ _ _ _ _ _))|(refine sx ?_;intro _ _)|((with_reducible refine g_awp ?_);simp only [g0,g1,g2]))
        obtain ⟨re, oe⟩ := empty_own (h := h4) (α := Verdict) (w := 3) rfl
        refine aw_tail rfl (r4.ext ext_auto) (o4.ext ext_auto r4.lt) fun u r5 => ?_
        refine aw_app (n := h.n) re r5 (by rw [tail_flat r5]; simpa using oe h.n e4.1) (by have := e4.1; simp; omega) rfl (by simp; omega) (by simp; omega) ?_
        intro v6 h6 F6 k6 r6 o6
        (repeat' first|refine vs ?_|(refine br ?_ ?_<;>intro _<;>try(exfalso;first|omega|contradiction))|((with_reducible refine g_idx ?_);((first|refine ix ?_|refine ixi ?_|(refine ixg ?_;intro _ _)|(refine ixgi ?_;intro _ _));first|rintro _ _ _ _ _ ⟨rfl,rfl⟩ _|rintro _ _ _ _ _ ⟨_,rfl,_⟩ _|rintro _ _ _ _ _ ⟨_,_,_,_,rfl,rfl,_,_⟩ _|intro _ _ _ _ _ _ _))|(refine sx ?_;intro _ _)|((with_reducible refine g_awp ?_);simp only [g0,g1,g2]))
        refine ⟨_, ?_, d + 1, v6, F6, by rw [gone_succ hx], rfl, by omega, k6.ext (e4.push _) (by have := e4.1; simp; omega), by simpa using r6, o6⟩
        omega
      · have hde : d = (keepers xs v).length - m.toNat := by omega
        (repeat' first|refine vs ?_|(refine br ?_ ?_<;>intro _<;>try(exfalso;first|omega|contradiction))|((with_reducible refine g_idx ?_);((first|refine ix ?_|refine ixi ?_|(refine ixg ?_;intro _ _)|(refine ixgi ?_;intro _ _));first|rintro _ _ _ _ _ ⟨rfl,rfl⟩ _|rintro _ _ _ _ _ ⟨_,rfl,_⟩ _|rintro _ _ _ _ _ ⟨_,_,_,_,rfl,rfl,_,_⟩ _|intro _ _ _ _ _ _ _))|(refine sx ?_;intro _ _)|((with_reducible refine g_awp ?_);simp only [g0,g1,g2]))
        refine ⟨rfl, _, rfl, e4, va, F4, ?_, ?_, o4⟩
        · rw [hde]; simp [rem, hm, g]
        · rw [hde] at r4; simpa [rem, hm] using r4

theorem aeqs_V (x : Verdict) : aeqs [0, 0, 2] x.cs x.cs = some true := by
  have : aeqs [0, 0, 2] x.cs x.cs = some (decide (x.trace = x.trace) && (decide (x.stamp = x.stamp) && ((x.keep == x.keep) && true))) := rfl
  rw [this]; simp
section
variable {P : Program} {h : AH} {Q : Nat → List AV → AH → Prop} {k : AV → Prog}
theorem w_eqsVn {x : Verdict} (hk : (k (.bool false)).awp P h Q) : (Prog.op (.eqs [0, 0, 2] true (.agg x.cs) (.agg x.cs)) k).awp P h Q := by
  simp only [Prog.awp, AOp.go, aeqs_V, if_true]; exact hk
theorem w_eqsVe {x : Verdict} (hk : (k (.bool true)).awp P h Q) : (Prog.op (.eqs [0, 0, 2] false (.agg x.cs) (.agg x.cs)) k).awp P h Q := by
  simp only [Prog.awp, AOp.go, aeqs_V]; exact hk
end
theorem s_laws_sameCache : EqS Verdict Try.prog n_laws_sameCache := by
  intro xs v v' F F' h r r'
  have hsm := r.small
  refine reader (c_laws_sameCache _ _) (by simp only [old]) ?_
  unfold p_laws_sameCache
  (repeat' first|refine vs ?_|(refine br ?_ ?_<;>intro _<;>try(exfalso;first|omega|contradiction))|((with_reducible refine g_idx ?_);((first|refine ix ?_|refine ixi ?_|(refine ixg ?_;intro _ _)|(refine ixgi ?_;intro _ _));first|rintro _ _ _ _ _ ⟨rfl,rfl⟩ _|rintro _ _ _ _ _ ⟨_,rfl,_⟩ _|rintro _ _ _ _ _ ⟨_,_,_,_,rfl,rfl,_,_⟩ _|intro _ _ _ _ _ _ _))|(refine sx ?_;intro _ _)|((with_reducible refine g_awp ?_);simp only [g0,g1,g2]))
  refine aw_upto xs.length (fun i vs h1 => vs = [.int .i64 (i : Int)] ∧ i ≤ xs.length ∧ h1 = h) ⟨rfl, Nat.zero_le _, rfl⟩ ?_
  rintro i vs h1 _ ⟨rfl, hi, rfl⟩
  simp only [g0]
  refine aw_len r ?_
  refine br (fun hlt => ?_) (fun hge => ?_)
  · obtain ⟨x, hx, -, -⟩ := drop_step (show i < xs.length by omega)
    refine vs ?_
    refine aw_idx r hx rfl ?_
    rintro b o _ Fi a ⟨rfl, rfl⟩ _
    refine vs ?_
    refine aw_idx r' hx rfl ?_
    rintro b2 o2 _ Fi2 a2 ⟨rfl, rfl⟩ _
    refine vs ?_
    refine w_eqsVn ?_
    (repeat' first|refine vs ?_|(refine br ?_ ?_<;>intro _<;>try(exfalso;first|omega|contradiction))|((with_reducible refine g_idx ?_);((first|refine ix ?_|refine ixi ?_|(refine ixg ?_;intro _ _)|(refine ixgi ?_;intro _ _));first|rintro _ _ _ _ _ ⟨rfl,rfl⟩ _|rintro _ _ _ _ _ ⟨_,rfl,_⟩ _|rintro _ _ _ _ _ ⟨_,_,_,_,rfl,rfl,_,_⟩ _|intro _ _ _ _ _ _ _))|(refine sx ?_;intro _ _)|((with_reducible refine g_awp ?_);simp only [g0,g1,g2]))
    exact ⟨by omega, rfl, by omega, rfl⟩
  · (repeat' first|refine vs ?_|(refine br ?_ ?_<;>intro _<;>try(exfalso;first|omega|contradiction))|((with_reducible refine g_idx ?_);((first|refine ix ?_|refine ixi ?_|(refine ixg ?_;intro _ _)|(refine ixgi ?_;intro _ _));first|rintro _ _ _ _ _ ⟨rfl,rfl⟩ _|rintro _ _ _ _ _ ⟨_,rfl,_⟩ _|rintro _ _ _ _ _ ⟨_,_,_,_,rfl,rfl,_,_⟩ _|intro _ _ _ _ _ _ _))|(refine sx ?_;intro _ _)|((with_reducible refine g_awp ?_);simp only [g0,g1,g2]))
    exact pb rfl
end Go.Proofs.Ytpcgbddmdipfbaa
