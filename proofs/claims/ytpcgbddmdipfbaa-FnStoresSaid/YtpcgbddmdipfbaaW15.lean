/- Which stripes may be. -/
import Derived.Test.YtpcgbddmdipfbaaW11
set_option linter.unusedSimpArgs false
set_option linter.unusedVariables false
set_option maxHeartbeats 2000000
namespace Go.Proofs.Ytpcgbddmdipfbaa
open Go Go.Ab
section
/- slices.Index[[]int,int] -/
def p_slices_Index_int (x0 x1 : AV) : Prog := .op (.len 0 x0) fun v1 => .loop [AV.int .i64 0] (fun vs2 => .op (.bin 0 .lss (g vs2 0) v1) fun v4 => .ite v4 (.op (.idx 1 x0 (g vs2 0)) fun v5 => .op (.ld1 v5) fun v6 => .op (.bin 0 .eql x1 v6) fun v7 => .ite v7 (.fin [.val (g vs2 0)]) (.op (.bin 0 .add (g vs2 0) (AV.int .i64 1)) fun v8 => .leaf 0 [v8])) (.leaf 2 [g vs2 0])) fun t3 vs2 => tsel t3 1 (.leaf 1 vs2) (tsel t3 2 (.fin [.val (AV.int .i64 (-1))]) .bad)
theorem c_slices_Index_int (x0 x1 : AV) : CC Try.prog n_slices_Index_int [x0, x1] (p_slices_Index_int x0 x1) := cc Try.func214 [0, 1, 7, 8] (fun _ => []) (by kernel_rfl)
/- slices.Contains[[]int,int] -/
def p_slices_Contains_int (x0 x1 : AV) : Prog := .op (.call n_slices_Index_int [x0, x1]) fun v1 => .op (.bin 0 .geq v1 (AV.int .i64 0)) fun v2 => .fin [.val v2]
theorem c_slices_Contains_int (x0 x1 : AV) : CC Try.prog n_slices_Contains_int [x0, x1] (p_slices_Contains_int x0 x1) := cc Try.func180 [] (fun _ => []) (by kernel_rfl)
/- spec.l11Has -/
def p_spec_l11Has (x0 x1 : AV) : Prog := .loop [AV.int .i64 0] (fun vs1 => .op (.len 0 x0) fun v3 => .op (.bin 0 .lss (g vs1 0) v3) fun v4 => .ite v4 (.op (.idx 1 x0 (g vs1 0)) fun v5 => .op (.ld1 v5) fun v6 => .op (.bin 0 .eql v6 x1) fun v7 => .ite v7 (.fin [.val (AV.bool true)]) (.op (.bin 0 .add (g vs1 0) (AV.int .i64 1)) fun v8 => .leaf 0 [v8])) (.leaf 2 [g vs1 0])) fun t2 vs1 => tsel t2 1 (.leaf 1 vs1) (tsel t2 2 (.fin [.val (AV.bool false)]) .bad)
theorem c_spec_l11Has (x0 x1 : AV) : CC Try.prog n_spec_l11Has [x0, x1] (p_spec_l11Has x0 x1) := cc Try.func181 [0, 1, 5] (fun _ => []) (by kernel_rfl)
/- impl.StripesOk -/
def p_impl_StripesOk (x0 : AV) : Prog := .op (.len 0 x0) fun v1 => .op (.call n_impl_within [v1, AV.int .i64 1, AV.int .i64 3]) fun v2 => .op (.una .not v2) fun v3 => .ite v3 (.fin [.val (AV.bool false)]) (.op (.len 0 x0) fun v4 => .loop [AV.nils, .tup [], .tup [], AV.int .i64 0, .tup [], .tup [], .tup []] (fun vs5 => .op (.bin 0 .lss (g vs5 3) v4) fun v7 => .ite v7 (.op (.idx 2 x0 (g vs5 3)) fun v8 => .op (.ldn 2 v8) fun v9 => .op (.alloc [AV.int .i64 0, AV.nils]) fun v10 => .op (.st 2 v10 v9) fun v11 => .op (.fad 0 v10) fun v12 => .op (.ld1 v12) fun v13 => .op (.call n_impl_within [v13, AV.int .i64 (-1), AV.int .i64 4]) fun v14 => .op (.una .not v14) fun v15 => .ite v15 (.fin [.val (AV.bool false)]) (.op (.fad 1 v10) fun v16 => .op (.ld1 v16) fun v17 => .op (.len 0 v17) fun v18 => .loop [g vs5 0, AV.int .i64 0] (fun vs19 => .op (.bin 0 .lss (g vs19 1) v18) fun v21 => .ite v21 (.op (.idx 4 v17 (g vs19 1)) fun v22 => .op (.ldn 4 v22) fun v23 => .op (.alloc [AV.int .i64 0, AV.int .i64 0, AV.int .i64 0, AV.nils]) fun v24 => .op (.st 4 v24 v23) fun v25 => .op (.ldn 4 v24) fun v26 => .op (.call n_impl_TrailOk [v26]) fun v27 => .op (.una .not v27) fun v28 => .gop v28 false (.fad 0 v24) fun v29 => .gop v28 false (.ld1 v29) fun v30 => .gop v28 false (.mv x0) fun v31 => .gop v28 false (.len 0 v31) fun v32 => .gop v28 false (.mv (g vs5 3)) fun v33 => .gop v28 false (.call n_impl_StripeOf [v30, v32]) fun v34 => .gop v28 false (.bin 0 .neq v34 v33) fun v35 => .op (.pick v28 (AV.bool true) v35) fun v36 => .gop v36 false (.mv (g vs19 1)) fun v37 => .gop v36 false (.bin 0 .gtr v37 (AV.int .i64 0)) fun v38 => .gop v36 false (.mv v38) fun v39 => .gop v39 true (.fad 1 v10) fun v40 => .gop v39 true (.ld1 v40) fun v41 => .gop v39 true (.mv (g vs19 1)) fun v42 => .gop v39 true (.bin 0 .sub v42 (AV.int .i64 1)) fun v43 => .gop v39 true (.idx 4 v41 v43) fun v44 => .gop v39 true (.fad 0 v44) fun v45 => .gop v39 true (.ld1 v45) fun v46 => .gop v39 true (.fad 0 v24) fun v47 => .gop v39 true (.ld1 v47) fun v48 => .gop v39 true (.bin 0 .geq v46 v48) fun v49 => .gop v36 false (.pick v39 v49 (AV.bool false)) fun v50 => .op (.pick v36 (AV.bool true) v50) fun v51 => .gop v51 false (.mv (g vs19 0)) fun v52 => .gop v51 false (.fad 1 v24) fun v53 => .gop v51 false (.ld1 v53) fun v54 => .gop v51 false (.call n_slices_Contains_int [v52, v54]) fun v55 => .op (.pick v51 (AV.bool true) v55) fun v56 => .ite v56 (.fin [.val (AV.bool false)]) (.op (.fad 1 v24) fun v57 => .op (.ld1 v57) fun v58 => .op (.bslice 1 1 [AV.int .i64 0] [(0, 1, v58)]) fun v59 => .op (.app 1 8 (g vs19 0) v59) fun v60 => .op (.bin 0 .add (g vs19 1) (AV.int .i64 1)) fun v61 => .leaf 0 [v60, v61])) (.leaf 4 [g vs19 0, g vs19 1])) fun t20 vs19 => tsel t20 1 (.leaf 1 vs19) (tsel t20 4 (.op (.bin 0 .add (g vs5 3) (AV.int .i64 1)) fun v62 => .leaf 0 [g vs19 0, g vs5 3, v10, v62, v17, v18, g vs19 1]) .bad))) (.leaf 2 [g vs5 0, g vs5 1, g vs5 2, g vs5 3, g vs5 4, g vs5 5, g vs5 6])) fun t6 vs5 => tsel t6 1 (.leaf 1 vs5) (tsel t6 2 (.fin [.val (AV.bool true)]) .bad))
theorem c_impl_StripesOk (x0 : AV) : CC Try.prog n_impl_StripesOk [x0] (p_impl_StripesOk x0) := cc Try.func110 [0, 3, 4, 5, 12, 13, 14, 24, 25, 26] (fun r => if r = 12 then [(0, []), (1, []), (2, []), (3, []), (4, []), (5, []), (6, []), (7, []), (9, []), (8, []), (10, []), (11, []), (12, []), (13, []), (14, []), (15, []), (16, []), (17, []), (18, []), (19, []), (20, []), (21, []), (22, []), (23, []), (24, []), (25, []), (26, []), (27, []), (28, []), (29, []), (30, []), (31, []), (32, []), (33, [])] else []) (by kernel_rfl)
/- spec.StripesOk -/
def p_spec_StripesOk (x0 : AV) : Prog := .op (.len 0 x0) fun v1 => .op (.call n_spec_l1In [v1, AV.int .i64 1, AV.int .i64 3]) fun v2 => .op (.una .not v2) fun v3 => .ite v3 (.fin [.val (AV.bool false)]) (.op (.bslice 1 0 [] []) fun v4 => .loop [v4, AV.int .i64 0, .tup []] (fun vs5 => .op (.len 0 x0) fun v7 => .op (.bin 0 .lss (g vs5 1) v7) fun v8 => .ite v8 (.op (.idx 2 x0 (g vs5 1)) fun v9 => .op (.fad 0 v9) fun v10 => .op (.ld1 v10) fun v11 => .op (.call n_spec_l1In [v11, AV.int .i64 (-1), AV.int .i64 4]) fun v12 => .op (.una .not v12) fun v13 => .ite v13 (.fin [.val (AV.bool false)]) (.loop [g vs5 0, AV.int .i64 0] (fun vs14 => .op (.idx 2 x0 (g vs5 1)) fun v16 => .op (.fad 1 v16) fun v17 => .op (.ld1 v17) fun v18 => .op (.len 0 v18) fun v19 => .op (.bin 0 .lss (g vs14 1) v19) fun v20 => .ite v20 (.op (.idx 2 x0 (g vs5 1)) fun v21 => .op (.fad 1 v21) fun v22 => .op (.ld1 v22) fun v23 => .op (.idx 4 v23 (g vs14 1)) fun v24 => .op (.ldn 4 v24) fun v25 => .op (.alloc [AV.int .i64 0, AV.int .i64 0, AV.int .i64 0, AV.nils]) fun v26 => .op (.st 4 v26 v25) fun v27 => .op (.ldn 4 v26) fun v28 => .op (.call n_spec_TrailOk [v28]) fun v29 => .op (.una .not v29) fun v30 => .gop v30 false (.fad 0 v26) fun v31 => .gop v30 false (.ld1 v31) fun v32 => .gop v30 false (.mv x0) fun v33 => .gop v30 false (.len 0 v33) fun v34 => .gop v30 false (.mv (g vs5 1)) fun v35 => .gop v30 false (.call n_spec_StripeOf [v32, v34]) fun v36 => .gop v30 false (.bin 0 .neq v36 v35) fun v37 => .op (.pick v30 (AV.bool true) v37) fun v38 => .gop v38 false (.mv (g vs14 1)) fun v39 => .gop v38 false (.bin 0 .gtr v39 (AV.int .i64 0)) fun v40 => .gop v38 false (.mv v40) fun v41 => .gop v41 true (.mv x0) fun v42 => .gop v41 true (.mv (g vs5 1)) fun v43 => .gop v41 true (.idx 2 v42 v43) fun v44 => .gop v41 true (.fad 1 v44) fun v45 => .gop v41 true (.ld1 v45) fun v46 => .gop v41 true (.mv (g vs14 1)) fun v47 => .gop v41 true (.bin 0 .sub v47 (AV.int .i64 1)) fun v48 => .gop v41 true (.idx 4 v46 v48) fun v49 => .gop v41 true (.fad 0 v49) fun v50 => .gop v41 true (.ld1 v50) fun v51 => .gop v41 true (.fad 0 v26) fun v52 => .gop v41 true (.ld1 v52) fun v53 => .gop v41 true (.bin 0 .geq v51 v53) fun v54 => .gop v38 false (.pick v41 v54 (AV.bool false)) fun v55 => .op (.pick v38 (AV.bool true) v55) fun v56 => .gop v56 false (.mv (g vs14 0)) fun v57 => .gop v56 false (.fad 1 v26) fun v58 => .gop v56 false (.ld1 v58) fun v59 => .gop v56 false (.call n_spec_l11Has [v57, v59]) fun v60 => .op (.pick v56 (AV.bool true) v60) fun v61 => .ite v61 (.fin [.val (AV.bool false)]) (.op (.fad 1 v26) fun v62 => .op (.ld1 v62) fun v63 => .op (.bslice 1 1 [AV.int .i64 0] [(0, 1, v63)]) fun v64 => .op (.app 1 8 (g vs14 0) v64) fun v65 => .op (.bin 0 .add (g vs14 1) (AV.int .i64 1)) fun v66 => .leaf 0 [v65, v66])) (.leaf 4 [g vs14 0, g vs14 1])) fun t15 vs14 => tsel t15 1 (.leaf 1 vs14) (tsel t15 4 (.op (.bin 0 .add (g vs5 1) (AV.int .i64 1)) fun v67 => .leaf 0 [g vs14 0, v67, g vs14 1]) .bad))) (.leaf 2 [g vs5 0, g vs5 1, g vs5 2])) fun t6 vs5 => tsel t6 1 (.leaf 1 vs5) (tsel t6 2 (.fin [.val (AV.bool true)]) .bad))
theorem c_spec_StripesOk (x0 : AV) : CC Try.prog n_spec_StripesOk [x0] (p_spec_StripesOk x0) := cc Try.func111 [0, 3, 4, 5] (fun r => if r = 13 then [(0, []), (1, []), (2, []), (3, []), (4, []), (5, []), (6, []), (7, []), (9, []), (8, []), (10, []), (11, []), (12, []), (13, []), (14, []), (15, []), (16, []), (17, []), (18, []), (19, []), (20, []), (21, []), (22, []), (23, []), (24, []), (25, []), (26, []), (27, []), (28, []), (29, []), (30, []), (31, []), (32, []), (33, []), (34, []), (35, []), (36, [])] else []) (by kernel_rfl)
end
theorem s_slices_Index_int {h : AH} {xs : List Int} {v : AV} {F : List Nat} {n : Int} (r : SlRep h v xs F) : RCalls Try.prog n_slices_Index_int [v, .int .i64 n] h (.int .i64 (idx (fun y => decide (n = y)) xs)) := by
  refine reader (c_slices_Index_int _ _) (by simp only [old]) ?_
  unfold p_slices_Index_int
  have hsm := r.small
  refine aw_len r ?_
  refine aw_upto xs.length (fun i vs h1 => vs = [.int .i64 (i : Int)] ∧ i ≤ xs.length ∧ h1 = h ∧ Upto xs (fun _ y => decide (n = y) = false) i) ⟨rfl, Nat.zero_le _, rfl, up0⟩ ?_
  rintro i vs h1 _ ⟨rfl, hi, rfl, hu⟩
  simp only [g0]
  refine br (fun hlt => ?_) (fun hge => ?_)
  · obtain ⟨x, hx, -, -⟩ := drop_step (show i < xs.length by omega)
    (repeat' first|refine vs ?_|(refine br ?_ ?_<;>intro _<;>try(exfalso;first|omega|contradiction))|((with_reducible refine g_idx ?_);((first|refine ix ?_|refine ixi ?_|(refine ixg ?_;intro _ _)|(refine ixgi ?_;intro _ _));first|rintro _ _ _ _ _ ⟨rfl,rfl⟩ _|rintro _ _ _ _ _ ⟨_,rfl,_⟩ _|rintro _ _ _ _ _ ⟨_,_,_,_,rfl,rfl,_,_⟩ _|intro _ _ _ _ _ _ _))|(refine sx ?_;intro _ _)|((with_reducible refine g_awp ?_);simp only [g0,g1,g2]))
    · rename_i he
      exact pi (idx_at hx (by simp [he]) fun j y hj hy => hu j y hj hy).symm
    · rename_i he
      exact ⟨by omega, rfl, by omega, rfl, upS hu hx (by simp [he])⟩
  · (repeat' first|refine vs ?_|(refine br ?_ ?_<;>intro _<;>try(exfalso;first|omega|contradiction))|((with_reducible refine g_idx ?_);((first|refine ix ?_|refine ixi ?_|(refine ixg ?_;intro _ _)|(refine ixgi ?_;intro _ _));first|rintro _ _ _ _ _ ⟨rfl,rfl⟩ _|rintro _ _ _ _ _ ⟨_,rfl,_⟩ _|rintro _ _ _ _ _ ⟨_,_,_,_,rfl,rfl,_,_⟩ _|intro _ _ _ _ _ _ _))|(refine sx ?_;intro _ _)|((with_reducible refine g_awp ?_);simp only [g0,g1,g2]))
    exact pi (idx_no fun j y hj hy => hu j y (by omega) hy).symm
theorem s_slices_Contains_int {h : AH} {xs : List Int} {v : AV} {F : List Nat} {n : Int} (r : SlRep h v xs F) : RCalls Try.prog n_slices_Contains_int [v, .int .i64 n] h (.bool (bp (n ∈ xs))) := by
  refine reader (c_slices_Contains_int _ _) (by simp only [old]) ?_
  unfold p_slices_Contains_int
  (repeat' first|refine vs ?_|(refine br ?_ ?_<;>intro _<;>try(exfalso;first|omega|contradiction))|((with_reducible refine g_callf n_slices_Index_int ?_);refine aw_rcall (s_slices_Index_int slr_auto) ?_)|((with_reducible refine g_idx ?_);((first|refine ix ?_|refine ixi ?_|(refine ixg ?_;intro _ _)|(refine ixgi ?_;intro _ _));first|rintro _ _ _ _ _ ⟨rfl,rfl⟩ _|rintro _ _ _ _ _ ⟨_,rfl,_⟩ _|rintro _ _ _ _ _ ⟨_,_,_,_,rfl,rfl,_,_⟩ _|intro _ _ _ _ _ _ _))|(refine sx ?_;intro _ _)|((with_reducible refine g_awp ?_);simp only [g0,g1,g2]))
  · rename_i hge
    rcases idx_cases (fun y => decide (n = y)) xs with ⟨e, -⟩ | ⟨i, x, e, hx, hp, -⟩
    · omega
    · exact pt (by simp at hp; subst hp; exact List.mem_of_getElem? hx)
  · rename_i hlt
    rcases idx_cases (fun y => decide (n = y)) xs with ⟨e, hf⟩ | ⟨i, x, e, hx, hp, -⟩
    · refine pf fun hm => ?_
      rw [List.filter_eq_self] at hf
      have := hf n hm; simp at this
    · omega
theorem s_spec_l11Has {h : AH} {xs : List Int} {v : AV} {F : List Nat} {n : Int} (r : SlRep h v xs F) : RCalls Try.prog n_spec_l11Has [v, .int .i64 n] h (.bool (bp (n ∈ xs))) := by
  refine reader (c_spec_l11Has _ _) (by simp only [old]) ?_
  unfold p_spec_l11Has
  have hsm := r.small
  refine aw_upto xs.length (fun i vs h1 => vs = [.int .i64 (i : Int)] ∧ i ≤ xs.length ∧ h1 = h ∧ Upto xs (fun _ y => ¬ y = n) i) ⟨rfl, Nat.zero_le _, rfl, up0⟩ ?_
  rintro i vs h1 _ ⟨rfl, hi, rfl, hu⟩
  simp only [g0]
  refine aw_len r ?_
  refine br (fun hlt => ?_) (fun hge => ?_)
  · obtain ⟨x, hx, -, -⟩ := drop_step (show i < xs.length by omega)
    (repeat' first|refine vs ?_|(refine br ?_ ?_<;>intro _<;>try(exfalso;first|omega|contradiction))|((with_reducible refine g_idx ?_);((first|refine ix ?_|refine ixi ?_|(refine ixg ?_;intro _ _)|(refine ixgi ?_;intro _ _));first|rintro _ _ _ _ _ ⟨rfl,rfl⟩ _|rintro _ _ _ _ _ ⟨_,rfl,_⟩ _|rintro _ _ _ _ _ ⟨_,_,_,_,rfl,rfl,_,_⟩ _|intro _ _ _ _ _ _ _))|(refine sx ?_;intro _ _)|((with_reducible refine g_awp ?_);simp only [g0,g1,g2]))
    · rename_i he
      exact pt (by subst he; exact List.mem_of_getElem? hx)
    · rename_i he
      exact ⟨by omega, rfl, by omega, rfl, upS hu hx he⟩
  · (repeat' first|refine vs ?_|(refine br ?_ ?_<;>intro _<;>try(exfalso;first|omega|contradiction))|((with_reducible refine g_idx ?_);((first|refine ix ?_|refine ixi ?_|(refine ixg ?_;intro _ _)|(refine ixgi ?_;intro _ _));first|rintro _ _ _ _ _ ⟨rfl,rfl⟩ _|rintro _ _ _ _ _ ⟨_,rfl,_⟩ _|rintro _ _ _ _ _ ⟨_,_,_,_,rfl,rfl,_,_⟩ _|intro _ _ _ _ _ _ _))|(refine sx ?_;intro _ _)|((with_reducible refine g_awp ?_);simp only [g0,g1,g2]))
    rw [show i = xs.length by omega] at hu
    exact pf fun hm => upAll hu n hm rfl

def trOk (l : List Stripe) (i : Nat) (x : Stripe) (k : Nat) (t : Trail) : Prop := trailOk t ∧ stripe t.id l.length = i ∧ (∀ u, 0 < k → x.l[((k : Int) - 1).toNat]? = some u → ¬ t.id ≤ u.id) ∧ t.stamp ∉ (allT (l.take i) ++ x.l.take k).map (·.stamp)
def strOk (l : List Stripe) (i : Nat) (x : Stripe) : Prop := (-1 ≤ x.held ∧ x.held ≤ 4) ∧ ∀ k t, x.l[k]? = some t → trOk l i x k t
def stripesOk (l : List Stripe) : Prop := (1 ≤ (l.length : Int) ∧ (l.length : Int) ≤ 3) ∧ ∀ i x, l[i]? = some x → strOk l i x
def stamps (l : List Stripe) (i : Nat) (x : Stripe) (k : Nat) : List Int := (allT (l.take i) ++ x.l.take k).map (·.stamp)
theorem stamps_s {l : List Stripe} {i : Nat} {x : Stripe} {k : Nat} {t : Trail} (ht : x.l.take (k + 1) = x.l.take k ++ [t]) : stamps l i x (k + 1) = stamps l i x k ++ [t.stamp] := by unfold stamps; rw [ht, ← List.append_assoc, List.map_append]; rfl
theorem stamps_e {l : List Stripe} {i : Nat} {x : Stripe} (ht : l.take (i + 1) = l.take i ++ [x]) : stamps l i x x.l.length = (allT (l.take (i + 1))).map (·.stamp) := by unfold stamps; rw [allT_s ht, List.take_length]
theorem stamps_len (l : List Stripe) (i : Nat) (x : Stripe) (k : Nat) : (stamps l i x k).length ≤ szs (l.take i) + x.l.length := by
  have := allT_b (l.take i)
  unfold stamps; rw [List.length_map, List.length_append, List.length_take]; omega
theorem s_impl_StripesOk {h : AH} {l : List Stripe} {v : AV} {F : List Nat} (ok : ∀ x ∈ l, Cel.ok x) (hs : l.length + szs l ≤ 67108864) (r : SlRep h v l F) : RCalls Try.prog n_impl_StripesOk [v] h (.bool (bp (stripesOk l))) := by
  refine reader (c_impl_StripesOk _) (by simp only [old]) ?_
  unfold p_impl_StripesOk
  have hsm := r.small
  (repeat' first|refine vs ?_|(refine br ?_ ?_<;>intro _<;>try(exfalso;first|omega|contradiction))|((with_reducible refine g_callf n_impl_within ?_);(refine aw_rcall_b s_impl_within ?_ ?_ <;> intro hb <;> first | replace hb := inB_t hb | replace hb := inB_f hb))|((with_reducible refine g_idx ?_);((first|refine ix ?_|refine ixi ?_|(refine ixg ?_;intro _ _)|(refine ixgi ?_;intro _ _));first|rintro _ _ _ _ _ ⟨rfl,rfl⟩ _|rintro _ _ _ _ _ ⟨_,rfl,_⟩ _|rintro _ _ _ _ _ ⟨_,_,_,_,rfl,rfl,_,_⟩ _|intro _ _ _ _ _ _ _))|(refine sx ?_;intro _ _)|((with_reducible refine g_awp ?_);simp only [g0,g1,g2]))
  rotate_left
  · exact pf (fun k => by have := k.1; omega)
  refine aw_upto l.length (fun i vs h1 => ∃ u G z1 z2 z4 z5 z6, vs = [u, z1, z2, .int .i64 (i : Int), z4, z5, z6] ∧ i ≤ l.length ∧ Ext h h1 ∧ SlRep h1 u ((allT (l.take i)).map (·.stamp)) G ∧ Own h.n h1 G ∧ Upto l (strOk l) i) ⟨.nils, [], _, _, _, _, _, rfl, Nat.zero_le _, Ext.refl _, SlRep.nils, Own.nil, up0⟩ ?_
  rintro i vs h1 _ ⟨u, G, z1, z2, z4, z5, z6, rfl, hi, e1, ru, ou, hu⟩
  have n1 := e1.1
  simp only [g0, g3]
  refine br (fun hlt => ?_) (fun hge => ?_)
  · obtain ⟨x, hx, -, htk⟩ := drop_step (show i < l.length by omega)
    have hxm := List.mem_of_getElem? hx
    have hm := szs_mem hxm
    have hx2 : Sz.sz x = x.l.length + szs x.l := rfl
    have okx := ok x hxm
    refine vs ?_
    refine aw_idx r hx rfl ?_
    rintro b o _ Fi a ⟨v0, rfl, r0⟩ _
    (repeat' first|refine vs ?_|(refine br ?_ ?_<;>intro _<;>try(exfalso;first|omega|contradiction))|((with_reducible refine g_callf n_impl_within ?_);(refine aw_rcall_b s_impl_within ?_ ?_ <;> intro hb <;> first | replace hb := inB_t hb | replace hb := inB_f hb))|((with_reducible refine g_idx ?_);((first|refine ix ?_|refine ixi ?_|(refine ixg ?_;intro _ _)|(refine ixgi ?_;intro _ _));first|rintro _ _ _ _ _ ⟨rfl,rfl⟩ _|rintro _ _ _ _ _ ⟨_,rfl,_⟩ _|rintro _ _ _ _ _ ⟨_,_,_,_,rfl,rfl,_,_⟩ _|intro _ _ _ _ _ _ _))|(refine sx ?_;intro _ _)|((with_reducible refine g_awp ?_);simp only [g0,g1,g2]))
    rotate_left
    · exact pf (fun k => by have := (k.2 i x hx).1; omega)
    have hle := szs_take_le l i
    refine aw_upto x.l.length (fun k vs h2 => ∃ u G, vs = [u, .int .i64 (k : Int)] ∧ k ≤ x.l.length ∧ Ext h h2 ∧ Bk h2 h1.n [.int .i64 x.held, v0] 0 ∧ h1.n ∉ G ∧ SlRep h2 u (stamps l i x k) G ∧ Own h.n h2 G ∧ Upto x.l (trOk l i x) k) ⟨u, G, rfl, Nat.zero_le _, ext_auto, bk_auto, nin_lt ru (Nat.le_refl _), by unfold stamps; rw [List.take_zero, List.append_nil]; exact slr_auto, ol_auto, up0⟩ ?_
    rintro k vs h2 _ ⟨u2, G2, rfl, hk, e2, bk2, nb2, ru2, ou2, hu2⟩
    have n2 := e2.1
    have nb := bk2.1
    simp only [g0, g1]
    refine br (fun hlt2 => ?_) (fun hge2 => ?_)
    · obtain ⟨t, ht, -, htk2⟩ := drop_step (show k < x.l.length by omega)
      have htm := List.mem_of_getElem? ht
      have hm2 := szs_mem htm
      have okt := okx.2 t htm
      have hsl := stamps_len l i x k
      (repeat' first|refine vs ?_|(refine br ?_ ?_<;>intro _<;>try(exfalso;first|omega|contradiction))|((with_reducible refine g_callf n_impl_TrailOk ?_);(refine aw_rcall_b (s_impl_TrailOk okt.2.2.2 (by omega) slr_auto) ?_ ?_ <;> intro hn <;> first | replace hn := bp_true hn | replace hn := bp_false hn))|((with_reducible refine g_callf n_impl_StripeOf ?_);refine aw_rcall s_impl_StripeOf ?_)|((with_reducible refine g_callf n_slices_Contains_int ?_);(refine aw_rcall_b (s_slices_Contains_int slr_auto) ?_ ?_ <;> intro hc <;> first | replace hc := bp_true hc | replace hc := bp_false hc))|((with_reducible refine g_idx ?_);((first|refine ix ?_|refine ixi ?_|(refine ixg ?_;intro _ _)|(refine ixgi ?_;intro _ _));first|rintro _ _ _ _ _ ⟨rfl,rfl⟩ _|rintro _ _ _ _ _ ⟨_,rfl,_⟩ _|rintro _ _ _ _ _ ⟨_,_,_,_,rfl,rfl,_,_⟩ _|intro _ _ _ _ _ _ _))|(refine sx ?_;intro _ _)|((with_reducible refine g_awp ?_);simp only [g0,g1,g2]))
      all_goals first
        | (refine pf fun k1 => ?_; have k1 := (k1.2 i x hx).2 k t ht; obtain ⟨a1, a2, a3, a4⟩ := k1; first | contradiction | omega | exact a4 (by assumption) | exact a3 _ (by omega) (by assumption) (by omega))
        | skip
      all_goals
        refine app1F (n := h.n) (xs := stamps l i x k) (Fx := G2) (a := t.stamp) slr_auto ⟨rfl, rfl⟩ (by rw [List.append_nil]; exact ol_auto) om_auto rfl ?_ ?_ ?_
        · omega
        · omega
        intro u' h' F' ek kp r' o' hF'
        (repeat' first|refine vs ?_|(refine br ?_ ?_<;>intro _<;>try(exfalso;first|omega|contradiction))|((with_reducible refine g_idx ?_);((first|refine ix ?_|refine ixi ?_|(refine ixg ?_;intro _ _)|(refine ixgi ?_;intro _ _));first|rintro _ _ _ _ _ ⟨rfl,rfl⟩ _|rintro _ _ _ _ _ ⟨_,rfl,_⟩ _|rintro _ _ _ _ _ ⟨_,_,_,_,rfl,rfl,_,_⟩ _|intro _ _ _ _ _ _ _))|(refine sx ?_;intro _ _)|((with_reducible refine g_awp ?_);simp only [g0,g1,g2]))
        refine ⟨by omega, u', F', rfl, by omega, ek h ext_auto (Nat.le_refl _), bk_kp1 kp bk_auto nb2, fun hc => ?_, by rw [stamps_s htk2]; exact r', o', upS hu2 ht ⟨by assumption, by omega, fun u h0 hu => ?_, by assumption⟩⟩
        · rcases hF' _ hc with hc | hc | hc
          · exact nb2 hc
          · cases hc
          · simp only [push_n] at hc; omega
        · first
          | (exfalso; omega)
          | (simp_all; done)
          | (simp_all; omega)
    · (repeat' first|refine vs ?_|(refine br ?_ ?_<;>intro _<;>try(exfalso;first|omega|contradiction))|((with_reducible refine g_idx ?_);((first|refine ix ?_|refine ixi ?_|(refine ixg ?_;intro _ _)|(refine ixgi ?_;intro _ _));first|rintro _ _ _ _ _ ⟨rfl,rfl⟩ _|rintro _ _ _ _ _ ⟨_,rfl,_⟩ _|rintro _ _ _ _ _ ⟨_,_,_,_,rfl,rfl,_,_⟩ _|intro _ _ _ _ _ _ _))|(refine sx ?_;intro _ _)|((with_reducible refine g_awp ?_);simp only [g0,g1,g2]))
      have e : k = x.l.length := by omega
      rw [e, stamps_e htk] at ru2
      rw [e] at hu2
      exact ⟨by omega, u2, G2, _, _, _, _, _, rfl, by omega, ext_auto, ru2, ou2, upS hu hx ⟨by omega, fun k t ht => upEnd hu2 k t ht⟩⟩
  · (repeat' first|refine vs ?_|(refine br ?_ ?_<;>intro _<;>try(exfalso;first|omega|contradiction))|((with_reducible refine g_idx ?_);((first|refine ix ?_|refine ixi ?_|(refine ixg ?_;intro _ _)|(refine ixgi ?_;intro _ _));first|rintro _ _ _ _ _ ⟨rfl,rfl⟩ _|rintro _ _ _ _ _ ⟨_,rfl,_⟩ _|rintro _ _ _ _ _ ⟨_,_,_,_,rfl,rfl,_,_⟩ _|intro _ _ _ _ _ _ _))|(refine sx ?_;intro _ _)|((with_reducible refine g_awp ?_);simp only [g0,g1,g2]))
    rw [show i = l.length by omega] at hu
    exact pt ⟨by omega, fun i x hx => upEnd hu i x hx⟩
theorem s_spec_StripesOk {h : AH} {l : List Stripe} {v : AV} {F : List Nat} (ok : ∀ x ∈ l, Cel.ok x) (hs : l.length + szs l ≤ 67108864) (r : SlRep h v l F) : RCalls Try.prog n_spec_StripesOk [v] h (.bool (bp (stripesOk l))) := by
  refine reader (c_spec_StripesOk _) (by simp only [old]) ?_
  unfold p_spec_StripesOk
  have hsm := r.small
  (repeat' first|refine vs ?_|(refine br ?_ ?_<;>intro _<;>try(exfalso;first|omega|contradiction))|((with_reducible refine g_callf n_spec_l1In ?_);(refine aw_rcall_b s_spec_l1In ?_ ?_ <;> intro hb <;> first | replace hb := inB_t hb | replace hb := inB_f hb))|((with_reducible refine g_idx ?_);((first|refine ix ?_|refine ixi ?_|(refine ixg ?_;intro _ _)|(refine ixgi ?_;intro _ _));first|rintro _ _ _ _ _ ⟨rfl,rfl⟩ _|rintro _ _ _ _ _ ⟨_,rfl,_⟩ _|rintro _ _ _ _ _ ⟨_,_,_,_,rfl,rfl,_,_⟩ _|intro _ _ _ _ _ _ _))|(refine sx ?_;intro _ _)|((with_reducible refine g_awp ?_);simp only [g0,g1,g2]))
  rotate_left
  · exact pf (fun k => by have := k.1; omega)
  obtain ⟨re, oe⟩ := empty_own (h := h) (α := Int) (w := 1) rfl
  refine aw_upto l.length (fun i vs h1 => ∃ u G z, vs = [u, .int .i64 (i : Int), z] ∧ i ≤ l.length ∧ Ext h h1 ∧ SlRep h1 u ((allT (l.take i)).map (·.stamp)) G ∧ Own h.n h1 G ∧ Upto l (strOk l) i) ⟨_, _, _, rfl, Nat.zero_le _, ext_auto, re, oe _ (Nat.le_refl _), up0⟩ ?_
  rintro i vs h1 _ ⟨u, G, z, rfl, hi, e1, ru, ou, hu⟩
  have n1 := e1.1
  simp only [g0, g1]
  refine aw_len r ?_
  refine br (fun hlt => ?_) (fun hge => ?_)
  · obtain ⟨x, hx, -, htk⟩ := drop_step (show i < l.length by omega)
    have hxm := List.mem_of_getElem? hx
    have hm := szs_mem hxm
    have hx2 : Sz.sz x = x.l.length + szs x.l := rfl
    have okx := ok x hxm
    (repeat' first|refine vs ?_|(refine br ?_ ?_<;>intro _<;>try(exfalso;first|omega|contradiction))|((with_reducible refine g_callf n_spec_l1In ?_);(refine aw_rcall_b s_spec_l1In ?_ ?_ <;> intro hb <;> first | replace hb := inB_t hb | replace hb := inB_f hb))|((with_reducible refine g_idx ?_);((first|refine ix ?_|refine ixi ?_|(refine ixg ?_;intro _ _)|(refine ixgi ?_;intro _ _));first|rintro _ _ _ _ _ ⟨rfl,rfl⟩ _|rintro _ _ _ _ _ ⟨_,rfl,_⟩ _|rintro _ _ _ _ _ ⟨_,_,_,_,rfl,rfl,_,_⟩ _|intro _ _ _ _ _ _ _))|(refine sx ?_;intro _ _)|((with_reducible refine g_awp ?_);simp only [g0,g1,g2]))
    rotate_left
    · exact pf (fun k => by have := (k.2 i x hx).1; omega)
    have hle := szs_take_le l i
    refine aw_upto x.l.length (fun k vs h2 => ∃ u G, vs = [u, .int .i64 (k : Int)] ∧ k ≤ x.l.length ∧ Ext h h2 ∧ SlRep h2 u (stamps l i x k) G ∧ Own h.n h2 G ∧ Upto x.l (trOk l i x) k) ⟨u, G, rfl, Nat.zero_le _, ext_auto, by unfold stamps; rw [List.take_zero, List.append_nil]; exact slr_auto, ol_auto, up0⟩ ?_
    rintro k vs h2 _ ⟨u2, G2, rfl, hk, e2, ru2, ou2, hu2⟩
    have n2 := e2.1
    simp only [g0, g1]
    refine aw_idx r hx rfl ?_
    rintro b o _ Fi a ⟨v0, rfl, r0⟩ _
    refine vs ?_
    refine br (fun hlt2 => ?_) (fun hge2 => ?_)
    · obtain ⟨t, ht, -, htk2⟩ := drop_step (show k < x.l.length by omega)
      have htm := List.mem_of_getElem? ht
      have hm2 := szs_mem htm
      have okt := okx.2 t htm
      have hsl := stamps_len l i x k
      (repeat' first|refine vs ?_|(refine br ?_ ?_<;>intro _<;>try(exfalso;first|omega|contradiction))|((with_reducible refine g_callf n_spec_TrailOk ?_);(refine aw_rcall_b (s_spec_TrailOk okt.2.2.2 (by omega) slr_auto) ?_ ?_ <;> intro hn <;> first | replace hn := bp_true hn | replace hn := bp_false hn))|((with_reducible refine g_callf n_spec_StripeOf ?_);refine aw_rcall s_spec_StripeOf ?_)|((with_reducible refine g_callf n_spec_l11Has ?_);(refine aw_rcall_b (s_spec_l11Has slr_auto) ?_ ?_ <;> intro hc <;> first | replace hc := bp_true hc | replace hc := bp_false hc))|((with_reducible refine g_idx ?_);((first|refine ix ?_|refine ixi ?_|(refine ixg ?_;intro _ _)|(refine ixgi ?_;intro _ _));first|rintro _ _ _ _ _ ⟨rfl,rfl⟩ _|rintro _ _ _ _ _ ⟨_,rfl,_⟩ _|rintro _ _ _ _ _ ⟨_,_,_,_,rfl,rfl,_,_⟩ _|intro _ _ _ _ _ _ _))|(refine sx ?_;intro _ _)|((with_reducible refine g_awp ?_);simp only [g0,g1,g2]))
      all_goals first
        | (refine pf fun k1 => ?_; have k1 := (k1.2 i x hx).2 k t ht; obtain ⟨a1, a2, a3, a4⟩ := k1; first | contradiction | omega | exact a4 (by assumption) | exact a3 _ (by omega) (by assumption) (by omega))
        | skip
      all_goals
        refine app1 (n := h.n) (xs := stamps l i x k) (Fx := G2) (a := t.stamp) slr_auto ⟨rfl, rfl⟩ (by rw [List.append_nil]; exact ol_auto) om_auto rfl ?_ ?_ ?_
        · omega
        · omega
        intro u' h' F' ek kp r' o'
        (repeat' first|refine vs ?_|(refine br ?_ ?_<;>intro _<;>try(exfalso;first|omega|contradiction))|((with_reducible refine g_idx ?_);((first|refine ix ?_|refine ixi ?_|(refine ixg ?_;intro _ _)|(refine ixgi ?_;intro _ _));first|rintro _ _ _ _ _ ⟨rfl,rfl⟩ _|rintro _ _ _ _ _ ⟨_,rfl,_⟩ _|rintro _ _ _ _ _ ⟨_,_,_,_,rfl,rfl,_,_⟩ _|intro _ _ _ _ _ _ _))|(refine sx ?_;intro _ _)|((with_reducible refine g_awp ?_);simp only [g0,g1,g2]))
        refine ⟨by omega, u', F', rfl, by omega, ek h ext_auto (Nat.le_refl _), by rw [stamps_s htk2]; exact r', o', upS hu2 ht ⟨by assumption, by omega, fun u h0 hu => ?_, by assumption⟩⟩
        first
          | (exfalso; omega)
          | (simp_all; done)
          | (simp_all; omega)
    · (repeat' first|refine vs ?_|(refine br ?_ ?_<;>intro _<;>try(exfalso;first|omega|contradiction))|((with_reducible refine g_idx ?_);((first|refine ix ?_|refine ixi ?_|(refine ixg ?_;intro _ _)|(refine ixgi ?_;intro _ _));first|rintro _ _ _ _ _ ⟨rfl,rfl⟩ _|rintro _ _ _ _ _ ⟨_,rfl,_⟩ _|rintro _ _ _ _ _ ⟨_,_,_,_,rfl,rfl,_,_⟩ _|intro _ _ _ _ _ _ _))|(refine sx ?_;intro _ _)|((with_reducible refine g_awp ?_);simp only [g0,g1,g2]))
      have e : k = x.l.length := by omega
      rw [e, stamps_e htk] at ru2
      rw [e] at hu2
      exact ⟨by omega, u2, G2, _, rfl, by omega, ext_auto, ru2, ou2, upS hu hx ⟨by omega, fun k t ht => upEnd hu2 k t ht⟩⟩
  · (repeat' first|refine vs ?_|(refine br ?_ ?_<;>intro _<;>try(exfalso;first|omega|contradiction))|((with_reducible refine g_idx ?_);((first|refine ix ?_|refine ixi ?_|(refine ixg ?_;intro _ _)|(refine ixgi ?_;intro _ _));first|rintro _ _ _ _ _ ⟨rfl,rfl⟩ _|rintro _ _ _ _ _ ⟨_,rfl,_⟩ _|rintro _ _ _ _ _ ⟨_,_,_,_,rfl,rfl,_,_⟩ _|intro _ _ _ _ _ _ _))|(refine sx ?_;intro _ _)|((with_reducible refine g_awp ?_);simp only [g0,g1,g2]))
    rw [show i = l.length by omega] at hu
    exact pt ⟨by omega, fun i x hx => upEnd hu i x hx⟩
end Go.Proofs.Ytpcgbddmdipfbaa
