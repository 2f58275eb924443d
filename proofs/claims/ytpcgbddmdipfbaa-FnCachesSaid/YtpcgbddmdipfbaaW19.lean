
/- What is remembered, buckets, items: which may be. -/
import Derived.Test.YtpcgbddmdipfbaaW5
import Derived.Test.YtpcgbddmdipfbaaK4
set_option linter.unusedSimpArgs false
set_option linter.unusedVariables false
set_option maxHeartbeats 2000000
namespace Go.Proofs.Ytpcgbddmdipfbaa
open Go Go.Ab
section
/- impl.verdictAt$1 -/
def p_impl_verdictAt_1 (x0 x1 : AV) : Prog := .op (.box x0) fun v1 => .op (.fad 0 v1) fun v2 => .op (.ld1 v2) fun v3 => .op (.ld1 x1) fun v4 => .op (.bin 0 .eql v3 v4) fun v5 => .fin [.val v5]
theorem c_impl_verdictAt_1 (x0 x1 : AV) : CC Try.prog n_impl_verdictAt_1 [x0, x1] (p_impl_verdictAt_1 x0 x1) := cc Try.func201 [] (fun _ => []) (by kernel_rfl)
/- slices.IndexFunc[[]impl.Verdict,impl.Verdict] -/
def p_slices_IndexFunc_Verdict (x0 x1 : AV) : Prog := .op (.len 0 x0) fun v1 => .loop [AV.int .i64 0] (fun vs2 => .op (.bin 0 .lss (g vs2 0) v1) fun v4 => .ite v4 (.op (.idx 3 x0 (g vs2 0)) fun v5 => .op (.ldn 3 v5) fun v6 => .op (.callv x1 [v6]) fun v7 => .ite v7 (.fin [.val (g vs2 0)]) (.op (.bin 0 .add (g vs2 0) (AV.int .i64 1)) fun v8 => .leaf 0 [v8])) (.leaf 2 [g vs2 0])) fun t3 vs2 => tsel t3 1 (.leaf 1 vs2) (tsel t3 2 (.fin [.val (AV.int .i64 (-1))]) .bad)
theorem c_slices_IndexFunc_Verdict (x0 x1 : AV) : CC Try.prog n_slices_IndexFunc_Verdict [x0, x1] (p_slices_IndexFunc_Verdict x0 x1) := cc Try.func200 [0, 1, 7, 8] (fun _ => []) (by kernel_rfl)
/- impl.verdictAt -/
def p_impl_verdictAt (x0 x1 : AV) : Prog := .op (.box x1) fun v1 => .op (.mkfn n_impl_verdictAt_1 [v1]) fun v2 => .op (.call n_slices_IndexFunc_Verdict [x0, v2]) fun v3 => .fin [.val v3]
theorem c_impl_verdictAt (x0 x1 : AV) : CC Try.prog n_impl_verdictAt [x0, x1] (p_impl_verdictAt x0 x1) := cc Try.func151 [] (fun _ => []) (by kernel_rfl)
/- impl.CacheOk -/
def p_impl_CacheOk (x0 x1 : AV) : Prog := .op (.len 0 x0) fun v1 => .loop [AV.int .i64 0] (fun vs2 => .op (.bin 0 .lss (g vs2 0) v1) fun v4 => .ite v4 (.op (.idx 3 x0 (g vs2 0)) fun v5 => .op (.ldn 3 v5) fun v6 => .op (.alloc [AV.int .i64 0, AV.int .i64 0, AV.bool false]) fun v7 => .op (.st 3 v7 v6) fun v8 => .op (.fad 0 v7) fun v9 => .op (.ld1 v9) fun v10 => .op (.call n_impl_within [v10, AV.int .i64 1, AV.int .i64 999]) fun v11 => .op (.una .not v11) fun v12 => .gop v12 false (.fad 1 v7) fun v13 => .gop v12 false (.ld1 v13) fun v14 => .gop v12 false (.bin 0 .lss v14 (AV.int .i64 1)) fun v15 => .op (.pick v12 (AV.bool true) v15) fun v16 => .gop v16 false (.mv x0) fun v17 => .gop v16 false (.fad 0 v7) fun v18 => .gop v16 false (.ld1 v18) fun v19 => .gop v16 false (.call n_impl_verdictAt [v17, v19]) fun v20 => .gop v16 false (.mv (g vs2 0)) fun v21 => .gop v16 false (.bin 0 .neq v20 v21) fun v22 => .op (.pick v16 (AV.bool true) v22) fun v23 => .ite v23 (.fin [.val (AV.bool false)]) (.op (.bin 0 .add (g vs2 0) (AV.int .i64 1)) fun v24 => .leaf 0 [v24])) (.leaf 2 [g vs2 0])) fun t3 vs2 => tsel t3 1 (.leaf 1 vs2) (tsel t3 2 (.op (.len 0 x0) fun v25 => .op (.bin 0 .leq v25 x1) fun v26 => .fin [.val v26]) .bad)
theorem c_impl_CacheOk (x0 x1 : AV) : CC Try.prog n_impl_CacheOk [x0, x1] (p_impl_CacheOk x0 x1) := cc Try.func47 [0, 1, 7, 8, 9] (fun _ => []) (by kernel_rfl)
/- spec.CacheOk -/
def p_spec_CacheOk (x0 x1 : AV) : Prog := .loop [AV.int .i64 0, .tup []] (fun vs1 => .op (.len 0 x0) fun v3 => .op (.bin 0 .lss (g vs1 0) v3) fun v4 => .ite v4 (.op (.idx 3 x0 (g vs1 0)) fun v5 => .op (.fad 0 v5) fun v6 => .op (.ld1 v6) fun v7 => .op (.call n_spec_l1In [v7, AV.int .i64 1, AV.int .i64 999]) fun v8 => .op (.una .not v8) fun v9 => .gop v9 false (.mv x0) fun v10 => .gop v9 false (.mv (g vs1 0)) fun v11 => .gop v9 false (.idx 3 v10 v11) fun v12 => .gop v9 false (.fad 1 v12) fun v13 => .gop v9 false (.ld1 v13) fun v14 => .gop v9 false (.bin 0 .lss v14 (AV.int .i64 1)) fun v15 => .op (.pick v9 (AV.bool true) v15) fun v16 => .ite v16 (.fin [.val (AV.bool false)]) (.loop [AV.int .i64 0] (fun vs17 => .op (.bin 0 .lss (g vs17 0) (g vs1 0)) fun v19 => .ite v19 (.op (.idx 3 x0 (g vs17 0)) fun v20 => .op (.fad 0 v20) fun v21 => .op (.ld1 v21) fun v22 => .op (.idx 3 x0 (g vs1 0)) fun v23 => .op (.fad 0 v23) fun v24 => .op (.ld1 v24) fun v25 => .op (.bin 0 .eql v22 v25) fun v26 => .ite v26 (.fin [.val (AV.bool false)]) (.op (.bin 0 .add (g vs17 0) (AV.int .i64 1)) fun v27 => .leaf 0 [v27])) (.leaf 4 [g vs17 0])) fun t18 vs17 => tsel t18 1 (.leaf 1 vs17) (tsel t18 4 (.op (.bin 0 .add (g vs1 0) (AV.int .i64 1)) fun v28 => .leaf 0 [v28, g vs17 0]) .bad))) (.leaf 2 [g vs1 0, g vs1 1])) fun t2 vs1 => tsel t2 1 (.leaf 1 vs1) (tsel t2 2 (.op (.len 0 x0) fun v29 => .op (.bin 0 .leq v29 x1) fun v30 => .fin [.val v30]) .bad)
theorem c_spec_CacheOk (x0 x1 : AV) : CC Try.prog n_spec_CacheOk [x0, x1] (p_spec_CacheOk x0 x1) := cc Try.func48 [0, 1, 5, 6] (fun r => if r = 9 then [(0, []), (1, []), (2, []), (3, []), (4, []), (5, []), (6, []), (7, []), (8, []), (9, []), (10, [])] else []) (by kernel_rfl)
end
def isT (k : Int) (v : Verdict) : Bool := decide (v.trace = k)
theorem s_verdictAt_1 {h : AH} {b : Nat} {k : Int} (a : At h b 0 [.int .i64 k]) : Looks Verdict Try.prog h n_impl_verdictAt_1 [.ptr b 0] (isT k) := by
  rintro x cs F ⟨rfl, rfl⟩
  refine reader (c_impl_verdictAt_1 _ _) (by simp only [old]) ?_
  unfold p_impl_verdictAt_1
  (repeat' first|refine vs ?_|(refine br ?_ ?_<;>intro _<;>try(exfalso;first|omega|contradiction))|((with_reducible refine g_idx ?_);((first|refine ix ?_|refine ixi ?_|(refine ixg ?_;intro _ _)|(refine ixgi ?_;intro _ _));first|rintro _ _ _ _ _ ⟨rfl,rfl⟩ _|rintro _ _ _ _ _ ⟨_,rfl,_⟩ _|rintro _ _ _ _ _ ⟨_,_,_,_,rfl,rfl,_,_⟩ _|intro _ _ _ _ _ _ _))|(refine sx ?_;intro _ _)|((with_reducible refine g_awp ?_);simp only [g0,g1,g2]))
  all_goals (refine pb ?_; simp [isT, *])
theorem s_slices_IndexFunc_Verdict {h : AH} {xs : List Verdict} {x0 : AV} {F : List Nat} {f : FuncId} {caps : List AV} {p : Verdict → Bool} (r : SlRep h x0 xs F) (hf : Looks Verdict Try.prog h f caps p) :
    RCalls Try.prog n_slices_IndexFunc_Verdict [x0, .fn f caps] h (.int .i64 (idx p xs)) :=
  reader (c_slices_IndexFunc_Verdict _ _) (by simp only [old]) (idxF_spec (w := 3) rfl r hf)
theorem s_impl_verdictAt {h : AH} {xs : List Verdict} {x0 : AV} {F : List Nat} {k : Int} (r : SlRep h x0 xs F) : RCalls Try.prog n_impl_verdictAt [x0, .int .i64 k] h (.int .i64 (idx (isT k) xs)) := by
  refine reader (c_impl_verdictAt _ _) (by simp only [old]) ?_
  unfold p_impl_verdictAt
  (repeat' first|refine vs ?_|(refine br ?_ ?_<;>intro _<;>try(exfalso;first|omega|contradiction))|((with_reducible refine g_callf n_slices_IndexFunc_Verdict ?_);refine aw_rcall (s_slices_IndexFunc_Verdict slr_auto (s_verdictAt_1 at_push)) ?_)|((with_reducible refine g_idx ?_);((first|refine ix ?_|refine ixi ?_|(refine ixg ?_;intro _ _)|(refine ixgi ?_;intro _ _));first|rintro _ _ _ _ _ ⟨rfl,rfl⟩ _|rintro _ _ _ _ _ ⟨_,rfl,_⟩ _|rintro _ _ _ _ _ ⟨_,_,_,_,rfl,rfl,_,_⟩ _|intro _ _ _ _ _ _ _))|(refine sx ?_;intro _ _)|((with_reducible refine g_awp ?_);simp only [g0,g1,g2]))
  exact pi rfl
def cAt (xs : List Verdict) (i : Nat) (v : Verdict) : Prop := (1 ≤ v.trace ∧ v.trace ≤ 999) ∧ 1 ≤ v.stamp ∧ ∀ j u, j < i → xs[j]? = some u → u.trace ≠ v.trace
def cOk (xs : List Verdict) (k : Int) : Prop := (∀ i v, xs[i]? = some v → cAt xs i v) ∧ (xs.length : Int) ≤ k
theorem idx_firstT {xs : List Verdict} {i : Nat} {x : Verdict} (hx : xs[i]? = some x) : idx (isT x.trace) xs = i ↔ ∀ j u, j < i → xs[j]? = some u → u.trace ≠ x.trace := by
  constructor
  · intro h j u hj hu he
    unfold idx at h
    split at h
    · have : j < xs.findIdx (isT x.trace) := by omega
      have := List.not_of_lt_findIdx this
      have hj' := (List.getElem?_eq_some_iff.1 hu)
      rw [hj'.2] at this
      simp [isT, he] at this
    · omega
  · intro h
    exact idx_at hx (by simp [isT]) fun j u hj hu => by simpa [isT] using h j u hj hu
theorem s_impl_CacheOk {h : AH} {xs : List Verdict} {x0 : AV} {F : List Nat} {k : Int} (r : SlRep h x0 xs F) : RCalls Try.prog n_impl_CacheOk [x0, .int .i64 k] h (.bool (bp (cOk xs k))) := by
  refine reader (c_impl_CacheOk _ _) (by simp only [old]) ?_
  unfold p_impl_CacheOk
  have hsm := r.small
  refine aw_len r (aw_upto xs.length (fun i vs h1 => vs = [.int .i64 (i : Int)] ∧ i ≤ xs.length ∧ Ext h h1 ∧ Upto xs (cAt xs) i) ⟨rfl, Nat.zero_le _, Ext.refl _, up0⟩ ?_)
  rintro i vs h1 _ ⟨rfl, hi, e1, hu⟩
  simp only [g0]
  refine br (fun hlt => ?_) (fun hge => ?_)
  · obtain ⟨x, hx, -, -⟩ := drop_step (show i < xs.length by omega)
    have hf := idx_firstT hx
    (repeat' first|refine vs ?_|(refine br ?_ ?_<;>intro _<;>try(exfalso;first|omega|contradiction))|((with_reducible refine g_callf n_impl_within ?_);(refine aw_rcall_b s_impl_within ?_ ?_ <;> intro hb <;> (first | replace hb := inB_t hb | replace hb := inB_f hb)))|((with_reducible refine g_callf n_impl_verdictAt ?_);refine aw_rcall (s_impl_verdictAt slr_auto) ?_)|((with_reducible refine g_idx ?_);((first|refine ix ?_|refine ixi ?_|(refine ixg ?_;intro _ _)|(refine ixgi ?_;intro _ _));first|rintro _ _ _ _ _ ⟨rfl,rfl⟩ _|rintro _ _ _ _ _ ⟨_,rfl,_⟩ _|rintro _ _ _ _ _ ⟨_,_,_,_,rfl,rfl,_,_⟩ _|intro _ _ _ _ _ _ _))|(refine sx ?_;intro _ _)|((with_reducible refine g_awp ?_);simp only [g0,g1,g2]))
    all_goals first
      | exact ⟨by omega, rfl, by omega, ext_auto, upS hu hx ⟨by omega, by omega, hf.1 (by assumption)⟩⟩
      | (refine pf fun k => ?_; obtain ⟨a1, a2, a3⟩ := k.1 i x hx; first | omega | (have := hf.2 a3; contradiction))
  · rw [show i = xs.length by omega] at hu
    have hu := upEnd hu
    (repeat' first|refine vs ?_|(refine br ?_ ?_<;>intro _<;>try(exfalso;first|omega|contradiction))|((with_reducible refine g_idx ?_);((first|refine ix ?_|refine ixi ?_|(refine ixg ?_;intro _ _)|(refine ixgi ?_;intro _ _));first|rintro _ _ _ _ _ ⟨rfl,rfl⟩ _|rintro _ _ _ _ _ ⟨_,rfl,_⟩ _|rintro _ _ _ _ _ ⟨_,_,_,_,rfl,rfl,_,_⟩ _|intro _ _ _ _ _ _ _))|(refine sx ?_;intro _ _)|((with_reducible refine g_awp ?_);simp only [g0,g1,g2]))
    all_goals first
      | exact pt ⟨hu, by omega⟩
      | exact pf fun k => by have := k.2; omega
theorem s_spec_CacheOk {h : AH} {xs : List Verdict} {x0 : AV} {F : List Nat} {k : Int} (r : SlRep h x0 xs F) : RCalls Try.prog n_spec_CacheOk [x0, .int .i64 k] h (.bool (bp (cOk xs k))) := by
  refine reader (c_spec_CacheOk _ _) (by simp only [old]) ?_
  unfold p_spec_CacheOk
  have hsm := r.small
  refine aw_upto xs.length (fun i vs h1 => ∃ z, vs = [.int .i64 (i : Int), z] ∧ i ≤ xs.length ∧ h1 = h ∧ Upto xs (cAt xs) i) ⟨_, rfl, Nat.zero_le _, rfl, up0⟩ ?_
  rintro i vs h1 _ ⟨z, rfl, hi, rfl, hu⟩
  simp only [g0, g1]
  refine aw_len r ?_
  refine br (fun hlt => ?_) (fun hge => ?_)
  · obtain ⟨x, hx, -, -⟩ := drop_step (show i < xs.length by omega)
    refine aw_ite_t ?_
    (repeat' first|refine vs ?_|(refine br ?_ ?_<;>intro _<;>try(exfalso;first|omega|contradiction))|((with_reducible refine g_callf n_spec_l1In ?_);(refine aw_rcall_b s_spec_l1In ?_ ?_ <;> intro hb <;> (first | replace hb := inB_t hb | replace hb := inB_f hb)))|((with_reducible refine g_idx ?_);((first|refine ix ?_|refine ixi ?_|(refine ixg ?_;intro _ _)|(refine ixgi ?_;intro _ _));first|rintro _ _ _ _ _ ⟨rfl,rfl⟩ _|rintro _ _ _ _ _ ⟨_,rfl,_⟩ _|rintro _ _ _ _ _ ⟨_,_,_,_,rfl,rfl,_,_⟩ _|intro _ _ _ _ _ _ _))|(refine sx ?_;intro _ _)|((with_reducible refine g_awp ?_);simp only [g0,g1,g2]))
    all_goals first
      | (refine pf fun k => ?_; obtain ⟨a1, a2, a3⟩ := k.1 i x hx; omega)
      | skip
    refine aw_upto i (fun j vs h4 => vs = [.int .i64 (j : Int)] ∧ j ≤ i ∧ h4 = h1 ∧ ∀ (m : Nat) (y : Verdict), m < j → xs[m]? = some y → y.trace ≠ x.trace) ⟨rfl, Nat.zero_le _, rfl, fun m y hm => by omega⟩ ?_
    rintro j vs h4 _ ⟨rfl, hj, rfl, hu4⟩
    simp only [g0]
    refine br (fun hlt4 => ?_) (fun hge4 => ?_)
    · obtain ⟨y, hy, -, -⟩ := drop_step (show j < xs.length by omega)
      (repeat' first|refine vs ?_|(refine br ?_ ?_<;>intro _<;>try(exfalso;first|omega|contradiction))|((with_reducible refine g_idx ?_);((first|refine ix ?_|refine ixi ?_|(refine ixg ?_;intro _ _)|(refine ixgi ?_;intro _ _));first|rintro _ _ _ _ _ ⟨rfl,rfl⟩ _|rintro _ _ _ _ _ ⟨_,rfl,_⟩ _|rintro _ _ _ _ _ ⟨_,_,_,_,rfl,rfl,_,_⟩ _|intro _ _ _ _ _ _ _))|(refine sx ?_;intro _ _)|((with_reducible refine g_awp ?_);simp only [g0,g1,g2]))
      · rename_i he
        exact pf fun kk => (kk.1 i x hx).2.2 j y (by omega) hy he
      · rename_i he
        refine ⟨by omega, rfl, by omega, rfl, fun m z hm hz => ?_⟩
        by_cases e : m = j
        · subst e; rw [hy] at hz; cases hz; exact he
        · exact hu4 m z (by omega) hz
    · have e : j = i := by omega
      subst e
      (repeat' first|refine vs ?_|(refine br ?_ ?_<;>intro _<;>try(exfalso;first|omega|contradiction))|((with_reducible refine g_idx ?_);((first|refine ix ?_|refine ixi ?_|(refine ixg ?_;intro _ _)|(refine ixgi ?_;intro _ _));first|rintro _ _ _ _ _ ⟨rfl,rfl⟩ _|rintro _ _ _ _ _ ⟨_,rfl,_⟩ _|rintro _ _ _ _ _ ⟨_,_,_,_,rfl,rfl,_,_⟩ _|intro _ _ _ _ _ _ _))|(refine sx ?_;intro _ _)|((with_reducible refine g_awp ?_);simp only [g0,g1,g2]))
      exact ⟨by omega, _, rfl, by omega, rfl, upS hu hx ⟨by omega, by omega, hu4⟩⟩
  · rw [show i = xs.length by omega] at hu
    have hu := upEnd hu
    (repeat' first|refine vs ?_|(refine br ?_ ?_<;>intro _<;>try(exfalso;first|omega|contradiction))|((with_reducible refine g_idx ?_);((first|refine ix ?_|refine ixi ?_|(refine ixg ?_;intro _ _)|(refine ixgi ?_;intro _ _));first|rintro _ _ _ _ _ ⟨rfl,rfl⟩ _|rintro _ _ _ _ _ ⟨_,rfl,_⟩ _|rintro _ _ _ _ _ ⟨_,_,_,_,rfl,rfl,_,_⟩ _|intro _ _ _ _ _ _ _))|(refine sx ?_;intro _ _)|((with_reducible refine g_awp ?_);simp only [g0,g1,g2]))
    all_goals first
      | exact pt ⟨hu, by omega⟩
      | exact pf fun k => by have := k.2; omega

/-! ### Buckets -/
def bucketOk (b : Bucket) : Prop := (0 ≤ b.rate ∧ b.rate ≤ 99) ∧ (0 ≤ b.burst ∧ b.burst ≤ 999) ∧ (0 ≤ b.tokens ∧ b.tokens ≤ b.burst) ∧ (0 ≤ b.at_ ∧ b.at_ ≤ 2147483647)
/-! ### Items -/
noncomputable def notIt (x : Itm) : Bool := !bp (itemOk x)
/-- A predicate that looks at the elements of a list that are in it. -/
theorem idx_ge {α : Type} {p : α → Bool} {xs : List α} : 0 ≤ idx p xs ↔ ∃ x ∈ xs, p x = true := by
  rcases idx_cases p xs with ⟨e, hn⟩ | ⟨i, x, e, hx, hp, -⟩
  · constructor
    · intro h; omega
    · rintro ⟨x, hx, hp⟩
      have : x ∈ xs.filter (fun y => p y) := List.mem_filter.2 ⟨hx, hp⟩
      exact absurd hp (by simpa using (by first | exact hn x hx | simp_all))
  · exact ⟨fun _ => ⟨x, List.mem_of_getElem? hx, hp⟩, fun _ => by omega⟩
end Go.Proofs.Ytpcgbddmdipfbaa
