/- Trails and items. -/
import Derived.Test.YtpcgbddmdipfbaaW4
set_option linter.unusedSimpArgs false
set_option linter.unusedVariables false
namespace Go.Proofs.Ytpcgbddmdipfbaa
open Go Go.Ab
section
/- impl.BytesOf -/
def p_impl_BytesOf (x0 : AV) : Prog := .op (.box x0) fun v1 => .op (.fad 3 v1) fun v2 => .op (.ld1 v2) fun v3 => .op (.call n_impl_TotalOf [v3]) fun v4 => .fin [.val v4]
theorem c_impl_BytesOf (x0 : AV) : CC Try.prog n_impl_BytesOf [x0] (p_impl_BytesOf x0) := cc Try.func97 [] (fun _ => []) (by kernel_rfl)
/- spec.BytesOf -/
def p_spec_BytesOf (x0 : AV) : Prog := .op (.box x0) fun v1 => .op (.fad 3 v1) fun v2 => .op (.ld1 v2) fun v3 => .op (.call n_spec_TotalOf [v3]) fun v4 => .fin [.val v4]
theorem c_spec_BytesOf (x0 : AV) : CC Try.prog n_spec_BytesOf [x0] (p_spec_BytesOf x0) := cc Try.func98 [] (fun _ => []) (by kernel_rfl)
/- impl.TrailAt -/
def p_impl_TrailAt (x0 x1 : AV) : Prog := .op (.box x1) fun v1 => .op (.mkfn n_impl_TrailAt_1 [v1]) fun v2 => .op (.call n_slices_IndexFunc_Trail [x0, v2]) fun v3 => .fin [.val v3]
theorem c_impl_TrailAt (x0 x1 : AV) : CC Try.prog n_impl_TrailAt [x0, x1] (p_impl_TrailAt x0 x1) := cc Try.func95 [] (fun _ => []) (by kernel_rfl)
/- spec.TrailAt -/
def p_spec_TrailAt (x0 x1 : AV) : Prog := .loop [AV.int .i64 0] (fun vs1 => .op (.len 0 x0) fun v3 => .op (.bin 0 .lss (g vs1 0) v3) fun v4 => .ite v4 (.op (.idx 4 x0 (g vs1 0)) fun v5 => .op (.fad 0 v5) fun v6 => .op (.ld1 v6) fun v7 => .op (.bin 0 .eql v7 x1) fun v8 => .ite v8 (.fin [.val (g vs1 0)]) (.op (.bin 0 .add (g vs1 0) (AV.int .i64 1)) fun v9 => .leaf 0 [v9])) (.leaf 2 [g vs1 0])) fun t2 vs1 => tsel t2 1 (.leaf 1 vs1) (tsel t2 2 (.fin [.val (AV.int .i64 (-1))]) .bad)
theorem c_spec_TrailAt (x0 x1 : AV) : CC Try.prog n_spec_TrailAt [x0, x1] (p_spec_TrailAt x0 x1) := cc Try.func96 [0, 1, 5] (fun _ => []) (by kernel_rfl)
/- impl.TrailAt$1 -/
def p_impl_TrailAt_1 (x0 x1 : AV) : Prog := .op (.box x0) fun v1 => .op (.fad 0 v1) fun v2 => .op (.ld1 v2) fun v3 => .op (.ld1 x1) fun v4 => .op (.bin 0 .eql v3 v4) fun v5 => .fin [.val v5]
theorem c_impl_TrailAt_1 (x0 x1 : AV) : CC Try.prog n_impl_TrailAt_1 [x0, x1] (p_impl_TrailAt_1 x0 x1) := cc Try.func171 [] (fun _ => []) (by kernel_rfl)
/- slices.IndexFunc[[]impl.Trail,impl.Trail] -/
def p_slices_IndexFunc_Trail (x0 x1 : AV) : Prog := .op (.len 0 x0) fun v1 => .loop [AV.int .i64 0] (fun vs2 => .op (.bin 0 .lss (g vs2 0) v1) fun v4 => .ite v4 (.op (.idx 4 x0 (g vs2 0)) fun v5 => .op (.ldn 4 v5) fun v6 => .op (.callv x1 [v6]) fun v7 => .ite v7 (.fin [.val (g vs2 0)]) (.op (.bin 0 .add (g vs2 0) (AV.int .i64 1)) fun v8 => .leaf 0 [v8])) (.leaf 2 [g vs2 0])) fun t3 vs2 => tsel t3 1 (.leaf 1 vs2) (tsel t3 2 (.fin [.val (AV.int .i64 (-1))]) .bad)
theorem c_slices_IndexFunc_Trail (x0 x1 : AV) : CC Try.prog n_slices_IndexFunc_Trail [x0, x1] (p_slices_IndexFunc_Trail x0 x1) := cc Try.func131 [0, 1, 7, 8] (fun _ => []) (by kernel_rfl)
/- spec.l3Same -/
def p_spec_l3Same (x0 x1 : AV) : Prog := .op (.len 0 x0) fun v1 => .op (.len 0 x1) fun v2 => .op (.bin 0 .neq v1 v2) fun v3 => .ite v3 (.fin [.val (AV.bool false)]) (.loop [AV.int .i64 0] (fun vs4 => .op (.len 0 x0) fun v6 => .op (.bin 0 .lss (g vs4 0) v6) fun v7 => .ite v7 (.op (.idx 6 x0 (g vs4 0)) fun v8 => .op (.ldn 6 v8) fun v9 => .op (.idx 6 x1 (g vs4 0)) fun v10 => .op (.ldn 6 v10) fun v11 => .op (.call n_spec_SameSpan [v9, v11]) fun v12 => .op (.una .not v12) fun v13 => .ite v13 (.fin [.val (AV.bool false)]) (.op (.bin 0 .add (g vs4 0) (AV.int .i64 1)) fun v14 => .leaf 0 [v14])) (.leaf 2 [g vs4 0])) fun t5 vs4 => tsel t5 1 (.leaf 1 vs4) (tsel t5 2 (.fin [.val (AV.bool true)]) .bad))
theorem c_spec_l3Same (x0 x1 : AV) : CC Try.prog n_spec_l3Same [x0, x1] (p_spec_l3Same x0 x1) := cc Try.func170 [0, 1, 5] (fun r => if r = 6 then [(0, []), (1, []), (2, []), (3, []), (4, []), (5, []), (6, []), (7, []), (8, []), (9, [])] else []) (by kernel_rfl)
/- slices.EqualFunc[[]impl.Span,[]impl.Span,impl.Span,impl.Span] -/
def p_slices_EqualFunc_Span (x0 x1 x2 : AV) : Prog := .op (.len 0 x0) fun v1 => .op (.len 0 x1) fun v2 => .op (.bin 0 .neq v1 v2) fun v3 => .ite v3 (.fin [.val (AV.bool false)]) (.op (.len 0 x0) fun v4 => .loop [AV.int .i64 0] (fun vs5 => .op (.bin 0 .lss (g vs5 0) v4) fun v7 => .ite v7 (.op (.idx 6 x0 (g vs5 0)) fun v8 => .op (.ldn 6 v8) fun v9 => .op (.alloc z6_822) fun v10 => .op (.st 6 v10 v9) fun v11 => .op (.idx 6 x1 (g vs5 0)) fun v12 => .op (.ldn 6 v12) fun v13 => .op (.alloc z6_822) fun v14 => .op (.st 6 v14 v13) fun v15 => .op (.ldn 6 v10) fun v16 => .op (.ldn 6 v14) fun v17 => .op (.callv x2 [v16, v17]) fun v18 => .op (.una .not v18) fun v19 => .ite v19 (.fin [.val (AV.bool false)]) (.op (.bin 0 .add (g vs5 0) (AV.int .i64 1)) fun v20 => .leaf 0 [v20])) (.leaf 2 [g vs5 0])) fun t6 vs5 => tsel t6 1 (.leaf 1 vs5) (tsel t6 2 (.fin [.val (AV.bool true)]) .bad))
theorem c_slices_EqualFunc_Span (x0 x1 x2 : AV) : CC Try.prog n_slices_EqualFunc_Span [x0, x1, x2] (p_slices_EqualFunc_Span x0 x1 x2) := cc Try.func169 [1, 2, 15, 16, 17] (fun _ => []) (by kernel_rfl)
/- impl.SameTrail -/
def p_impl_SameTrail (x0 x1 : AV) : Prog := .op (.box x0) fun v1 => .op (.box x1) fun v2 => .op (.fad 0 v1) fun v3 => .op (.ld1 v3) fun v4 => .op (.fad 0 v2) fun v5 => .op (.ld1 v5) fun v6 => .op (.bin 0 .eql v4 v6) fun v7 => .gop v7 true (.fad 1 v1) fun v8 => .gop v7 true (.ld1 v8) fun v9 => .gop v7 true (.fad 1 v2) fun v10 => .gop v7 true (.ld1 v10) fun v11 => .gop v7 true (.bin 0 .eql v9 v11) fun v12 => .op (.pick v7 v12 (AV.bool false)) fun v13 => .gop v13 true (.fad 2 v1) fun v14 => .gop v13 true (.ld1 v14) fun v15 => .gop v13 true (.fad 2 v2) fun v16 => .gop v13 true (.ld1 v16) fun v17 => .gop v13 true (.bin 0 .eql v15 v17) fun v18 => .op (.pick v13 v18 (AV.bool false)) fun v19 => .gop v19 true (.fad 3 v1) fun v20 => .gop v19 true (.ld1 v20) fun v21 => .gop v19 true (.fad 3 v2) fun v22 => .gop v19 true (.ld1 v22) fun v23 => .gop v19 true (.call n_slices_EqualFunc_Span [v21, v23, AV.fn n_impl_SameSpan []]) fun v24 => .op (.pick v19 v24 (AV.bool false)) fun v25 => .fin [.val v25]
theorem c_impl_SameTrail (x0 x1 : AV) : CC Try.prog n_impl_SameTrail [x0, x1] (p_impl_SameTrail x0 x1) := cc Try.func91 [] (fun _ => []) (by kernel_rfl)
/- spec.SameTrail -/
def p_spec_SameTrail (x0 x1 : AV) : Prog := .op (.box x0) fun v1 => .op (.box x1) fun v2 => .op (.fad 0 v1) fun v3 => .op (.ld1 v3) fun v4 => .op (.fad 0 v2) fun v5 => .op (.ld1 v5) fun v6 => .op (.bin 0 .eql v4 v6) fun v7 => .gop v7 true (.fad 1 v1) fun v8 => .gop v7 true (.ld1 v8) fun v9 => .gop v7 true (.fad 1 v2) fun v10 => .gop v7 true (.ld1 v10) fun v11 => .gop v7 true (.bin 0 .eql v9 v11) fun v12 => .op (.pick v7 v12 (AV.bool false)) fun v13 => .gop v13 true (.fad 2 v1) fun v14 => .gop v13 true (.ld1 v14) fun v15 => .gop v13 true (.fad 2 v2) fun v16 => .gop v13 true (.ld1 v16) fun v17 => .gop v13 true (.bin 0 .eql v15 v17) fun v18 => .op (.pick v13 v18 (AV.bool false)) fun v19 => .gop v19 true (.fad 3 v1) fun v20 => .gop v19 true (.ld1 v20) fun v21 => .gop v19 true (.fad 3 v2) fun v22 => .gop v19 true (.ld1 v22) fun v23 => .gop v19 true (.call n_spec_l3Same [v21, v23]) fun v24 => .op (.pick v19 v24 (AV.bool false)) fun v25 => .fin [.val v25]
theorem c_spec_SameTrail (x0 x1 : AV) : CC Try.prog n_spec_SameTrail [x0, x1] (p_spec_SameTrail x0 x1) := cc Try.func92 [] (fun _ => []) (by kernel_rfl)
/- impl.ItemOk -/
def p_impl_ItemOk (x0 : AV) : Prog := .op (.box x0) fun v1 => .op (.fad 0 v1) fun v2 => .op (.ld1 v2) fun v3 => .op (.bin 0 .geq v3 (AV.int .i64 1)) fun v4 => .gop v4 true (.fad 1 v1) fun v5 => .gop v4 true (.ldn 6 v5) fun v6 => .gop v4 true (.call n_impl_SpanOk [v6]) fun v7 => .op (.pick v4 v7 (AV.bool false)) fun v8 => .fin [.val v8]
theorem c_impl_ItemOk (x0 : AV) : CC Try.prog n_impl_ItemOk [x0] (p_impl_ItemOk x0) := cc Try.func77 [] (fun _ => []) (by kernel_rfl)
/- spec.ItemOk -/
def p_spec_ItemOk (x0 : AV) : Prog := .op (.box x0) fun v1 => .op (.fad 0 v1) fun v2 => .op (.ld1 v2) fun v3 => .op (.bin 0 .geq v3 (AV.int .i64 1)) fun v4 => .gop v4 true (.fad 1 v1) fun v5 => .gop v4 true (.ldn 6 v5) fun v6 => .gop v4 true (.call n_spec_SpanOk [v6]) fun v7 => .op (.pick v4 v7 (AV.bool false)) fun v8 => .fin [.val v8]
theorem c_spec_ItemOk (x0 : AV) : CC Try.prog n_spec_ItemOk [x0] (p_spec_ItemOk x0) := cc Try.func78 [] (fun _ => []) (by kernel_rfl)
/- impl.SameItem -/
def p_impl_SameItem (x0 x1 : AV) : Prog := .op (.box x0) fun v1 => .op (.box x1) fun v2 => .op (.fad 0 v1) fun v3 => .op (.ld1 v3) fun v4 => .op (.fad 0 v2) fun v5 => .op (.ld1 v5) fun v6 => .op (.bin 0 .eql v4 v6) fun v7 => .gop v7 true (.fad 1 v1) fun v8 => .gop v7 true (.ldn 6 v8) fun v9 => .gop v7 true (.fad 1 v2) fun v10 => .gop v7 true (.ldn 6 v10) fun v11 => .gop v7 true (.call n_impl_SameSpan [v9, v11]) fun v12 => .op (.pick v7 v12 (AV.bool false)) fun v13 => .fin [.val v13]
theorem c_impl_SameItem (x0 x1 : AV) : CC Try.prog n_impl_SameItem [x0, x1] (p_impl_SameItem x0 x1) := cc Try.func79 [] (fun _ => []) (by kernel_rfl)
/- spec.SameItem -/
def p_spec_SameItem (x0 x1 : AV) : Prog := .op (.box x0) fun v1 => .op (.box x1) fun v2 => .op (.fad 0 v1) fun v3 => .op (.ld1 v3) fun v4 => .op (.fad 0 v2) fun v5 => .op (.ld1 v5) fun v6 => .op (.bin 0 .eql v4 v6) fun v7 => .gop v7 true (.fad 1 v1) fun v8 => .gop v7 true (.ldn 6 v8) fun v9 => .gop v7 true (.fad 1 v2) fun v10 => .gop v7 true (.ldn 6 v10) fun v11 => .gop v7 true (.call n_spec_SameSpan [v9, v11]) fun v12 => .op (.pick v7 v12 (AV.bool false)) fun v13 => .fin [.val v13]
theorem c_spec_SameItem (x0 x1 : AV) : CC Try.prog n_spec_SameItem [x0, x1] (p_spec_SameItem x0 x1) := cc Try.func80 [] (fun _ => []) (by kernel_rfl)
end
theorem s_impl_BytesOf {h : AH} {t : Trail} {v : AV} {F : List Nat} (hs : Sz.sz t ≤ 67108864) (r : SlRep h v t.spans F) : RCalls Try.prog n_impl_BytesOf [.agg (t.cs v)] h (.int .i64 (sumI spanSize t.spans)) := by
  refine reader (c_impl_BytesOf _) (by simp only [old]) ?_
  unfold p_impl_BytesOf
  (repeat' first|refine vs ?_|(refine br ?_ ?_<;>intro _<;>try(exfalso;first|omega|contradiction))|((with_reducible refine g_callf n_impl_TotalOf ?_);refine aw_rcall (s_impl_TotalOf hs slr_auto) ?_)|((with_reducible refine g_idx ?_);((first|refine ix ?_|refine ixi ?_|(refine ixg ?_;intro _ _)|(refine ixgi ?_;intro _ _));first|rintro _ _ _ _ _ ⟨rfl,rfl⟩ _|rintro _ _ _ _ _ ⟨_,rfl,_⟩ _|rintro _ _ _ _ _ ⟨_,_,_,_,rfl,rfl,_,_⟩ _|intro _ _ _ _ _ _ _))|(refine sx ?_;intro _ _)|((with_reducible refine g_awp ?_);simp only [g0,g1,g2]))
  exact pi rfl
theorem s_spec_BytesOf {h : AH} {t : Trail} {v : AV} {F : List Nat} (hs : Sz.sz t ≤ 67108864) (r : SlRep h v t.spans F) : RCalls Try.prog n_spec_BytesOf [.agg (t.cs v)] h (.int .i64 (sumI spanSize t.spans)) := by
  refine reader (c_spec_BytesOf _) (by simp only [old]) ?_
  unfold p_spec_BytesOf
  (repeat' first|refine vs ?_|(refine br ?_ ?_<;>intro _<;>try(exfalso;first|omega|contradiction))|((with_reducible refine g_callf n_spec_TotalOf ?_);refine aw_rcall (s_spec_TotalOf hs slr_auto) ?_)|((with_reducible refine g_idx ?_);((first|refine ix ?_|refine ixi ?_|(refine ixg ?_;intro _ _)|(refine ixgi ?_;intro _ _));first|rintro _ _ _ _ _ ⟨rfl,rfl⟩ _|rintro _ _ _ _ _ ⟨_,rfl,_⟩ _|rintro _ _ _ _ _ ⟨_,_,_,_,rfl,rfl,_,_⟩ _|intro _ _ _ _ _ _ _))|(refine sx ?_;intro _ _)|((with_reducible refine g_awp ?_);simp only [g0,g1,g2]))
  exact pi rfl

def isId (k : Int) (t : Trail) : Bool := decide (t.id = k)
theorem s_TrailAt_1 {h : AH} {b : Nat} {k : Int} (a : At h b 0 [.int .i64 k]) : Looks Trail Try.prog h n_impl_TrailAt_1 [.ptr b 0] (isId k) := by
  rintro x cs F ⟨v, rfl, r⟩
  refine reader (c_impl_TrailAt_1 _ _) (by simp only [old]) ?_
  unfold p_impl_TrailAt_1
  (repeat' first|refine vs ?_|(refine br ?_ ?_<;>intro _<;>try(exfalso;first|omega|contradiction))|((with_reducible refine g_idx ?_);((first|refine ix ?_|refine ixi ?_|(refine ixg ?_;intro _ _)|(refine ixgi ?_;intro _ _));first|rintro _ _ _ _ _ ⟨rfl,rfl⟩ _|rintro _ _ _ _ _ ⟨_,rfl,_⟩ _|rintro _ _ _ _ _ ⟨_,_,_,_,rfl,rfl,_,_⟩ _|intro _ _ _ _ _ _ _))|(refine sx ?_;intro _ _)|((with_reducible refine g_awp ?_);simp only [g0,g1,g2]))
  all_goals (refine pb ?_; simp [isId, *])
theorem s_slices_IndexFunc_Trail {h : AH} {xs : List Trail} {x0 : AV} {F : List Nat} {f : FuncId} {caps : List AV} {p : Trail → Bool} (r : SlRep h x0 xs F) (hf : Looks Trail Try.prog h f caps p) :
    RCalls Try.prog n_slices_IndexFunc_Trail [x0, .fn f caps] h (.int .i64 (idx p xs)) :=
  reader (c_slices_IndexFunc_Trail _ _) (by simp only [old]) (idxF_spec (w := 4) rfl r hf)
theorem s_impl_TrailAt {h : AH} {xs : List Trail} {x0 : AV} {F : List Nat} {k : Int} (r : SlRep h x0 xs F) : RCalls Try.prog n_impl_TrailAt [x0, .int .i64 k] h (.int .i64 (idx (isId k) xs)) := by
  refine reader (c_impl_TrailAt _ _) (by simp only [old]) ?_
  unfold p_impl_TrailAt
  (repeat' first|refine vs ?_|(refine br ?_ ?_<;>intro _<;>try(exfalso;first|omega|contradiction))|((with_reducible refine g_callf n_slices_IndexFunc_Trail ?_);refine aw_rcall (s_slices_IndexFunc_Trail slr_auto (s_TrailAt_1 at_push)) ?_)|((with_reducible refine g_idx ?_);((first|refine ix ?_|refine ixi ?_|(refine ixg ?_;intro _ _)|(refine ixgi ?_;intro _ _));first|rintro _ _ _ _ _ ⟨rfl,rfl⟩ _|rintro _ _ _ _ _ ⟨_,rfl,_⟩ _|rintro _ _ _ _ _ ⟨_,_,_,_,rfl,rfl,_,_⟩ _|intro _ _ _ _ _ _ _))|(refine sx ?_;intro _ _)|((with_reducible refine g_awp ?_);simp only [g0,g1,g2]))
  exact pi rfl
theorem s_spec_TrailAt {h : AH} {xs : List Trail} {x0 : AV} {F : List Nat} {k : Int} (r : SlRep h x0 xs F) : RCalls Try.prog n_spec_TrailAt [x0, .int .i64 k] h (.int .i64 (idx (isId k) xs)) := by
  refine reader (c_spec_TrailAt _ _) (by simp only [old]) ?_
  unfold p_spec_TrailAt
  have hsm := r.small
  refine aw_upto xs.length (fun i vs h1 => vs = [.int .i64 (i : Int)] ∧ i ≤ xs.length ∧ h1 = h ∧ Upto xs (fun _ t => isId k t = false) i) ⟨rfl, Nat.zero_le _, rfl, up0⟩ ?_
  rintro i vs h1 _ ⟨rfl, hi, rfl, hu⟩
  simp only [g0]
  refine vs ?_
  refine br (fun hlt => ?_) (fun hge => ?_)
  · obtain ⟨x, hx, -, -⟩ := drop_step (show i < xs.length by omega)
    (repeat' first|refine vs ?_|(refine br ?_ ?_<;>intro _<;>try(exfalso;first|omega|contradiction))|((with_reducible refine g_idx ?_);((first|refine ix ?_|refine ixi ?_|(refine ixg ?_;intro _ _)|(refine ixgi ?_;intro _ _));first|rintro _ _ _ _ _ ⟨rfl,rfl⟩ _|rintro _ _ _ _ _ ⟨_,rfl,_⟩ _|rintro _ _ _ _ _ ⟨_,_,_,_,rfl,rfl,_,_⟩ _|intro _ _ _ _ _ _ _))|(refine sx ?_;intro _ _)|((with_reducible refine g_awp ?_);simp only [g0,g1,g2]))
    · rename_i he
      exact pi (idx_at hx (by simp [isId, he]) fun j y hj hy => hu j y hj hy).symm
    · rename_i he
      exact ⟨by omega, rfl, by omega, rfl, upS hu hx (by simp [isId, he])⟩
  · (repeat' first|refine vs ?_|(refine br ?_ ?_<;>intro _<;>try(exfalso;first|omega|contradiction))|((with_reducible refine g_idx ?_);((first|refine ix ?_|refine ixi ?_|(refine ixg ?_;intro _ _)|(refine ixgi ?_;intro _ _));first|rintro _ _ _ _ _ ⟨rfl,rfl⟩ _|rintro _ _ _ _ _ ⟨_,rfl,_⟩ _|rintro _ _ _ _ _ ⟨_,_,_,_,rfl,rfl,_,_⟩ _|intro _ _ _ _ _ _ _))|(refine sx ?_;intro _ _)|((with_reducible refine g_awp ?_);simp only [g0,g1,g2]))
    exact pi (idx_no fun j y hj hy => hu j y (by omega) hy).symm

theorem s_spec_l3Same {h : AH} {xs ys : List Span} {v0 v1 : AV} {F G : List Nat} (r : SlRep h v0 xs F) (r' : SlRep h v1 ys G) : RCalls Try.prog n_spec_l3Same [v0, v1] h (.bool (bp (xs = ys))) := by
  refine reader (c_spec_l3Same _ _) (by simp only [old]) ?_
  unfold p_spec_l3Same
  have hsm := r.small
  refine aw_len r (aw_len r' ?_)
  (repeat' first|refine vs ?_|(refine br ?_ ?_<;>intro _<;>try(exfalso;first|omega|contradiction))|((with_reducible refine g_idx ?_);((first|refine ix ?_|refine ixi ?_|(refine ixg ?_;intro _ _)|(refine ixgi ?_;intro _ _));first|rintro _ _ _ _ _ ⟨rfl,rfl⟩ _|rintro _ _ _ _ _ ⟨_,rfl,_⟩ _|rintro _ _ _ _ _ ⟨_,_,_,_,rfl,rfl,_,_⟩ _|intro _ _ _ _ _ _ _))|(refine sx ?_;intro _ _)|((with_reducible refine g_awp ?_);simp only [g0,g1,g2]))
  · exact pf (by intro k; subst k; omega)
  · refine aw_upto xs.length (fun i vs h1 => vs = [.int .i64 (i : Int)] ∧ i ≤ xs.length ∧ h1 = h ∧ EqUp xs ys i) ⟨rfl, Nat.zero_le _, rfl, eu0⟩ ?_
    rintro i vs h1 _ ⟨rfl, hi, rfl, hu⟩
    simp only [g0]
    refine aw_len r ?_
    refine br (fun hlt => ?_) (fun hge => ?_)
    · obtain ⟨x, hx, -, -⟩ := drop_step (show i < xs.length by omega)
      obtain ⟨y, hy, -, -⟩ := drop_step (show i < ys.length by omega)
      refine vs ?_
      refine aw_idx r hx rfl ?_
      rintro b o _ _ a ⟨w, rfl, q⟩ _
      refine vs ?_
      refine aw_idx r' hy rfl ?_
      rintro b' o' _ _ a' ⟨w', rfl, q'⟩ _
      (repeat' first|refine vs ?_|(refine br ?_ ?_<;>intro _<;>try(exfalso;first|omega|contradiction))|((with_reducible refine g_callf n_spec_SameSpan ?_);(refine aw_rcall_b (s_spec_SameSpan q q') ?_ ?_ <;> intro hn <;> first | replace hn := bp_true hn | replace hn := bp_false hn))|((with_reducible refine g_idx ?_);((first|refine ix ?_|refine ixi ?_|(refine ixg ?_;intro _ _)|(refine ixgi ?_;intro _ _));first|rintro _ _ _ _ _ ⟨rfl,rfl⟩ _|rintro _ _ _ _ _ ⟨_,rfl,_⟩ _|rintro _ _ _ _ _ ⟨_,_,_,_,rfl,rfl,_,_⟩ _|intro _ _ _ _ _ _ _))|(refine sx ?_;intro _ _)|((with_reducible refine g_awp ?_);simp only [g0,g1,g2]))
      · exact ⟨by omega, rfl, by omega, rfl, euS hu hx hy hn⟩
      · exact pf (euNot hx hy hn)
    · (repeat' first|refine vs ?_|(refine br ?_ ?_<;>intro _<;>try(exfalso;first|omega|contradiction))|((with_reducible refine g_idx ?_);((first|refine ix ?_|refine ixi ?_|(refine ixg ?_;intro _ _)|(refine ixgi ?_;intro _ _));first|rintro _ _ _ _ _ ⟨rfl,rfl⟩ _|rintro _ _ _ _ _ ⟨_,rfl,_⟩ _|rintro _ _ _ _ _ ⟨_,_,_,_,rfl,rfl,_,_⟩ _|intro _ _ _ _ _ _ _))|(refine sx ?_;intro _ _)|((with_reducible refine g_awp ?_);simp only [g0,g1,g2]))
      exact pt (euEnd (by rw [show i = xs.length by omega] at hu; exact hu) (by omega))
theorem s_slices_EqualFunc_Span {h : AH} {xs ys : List Span} {v0 v1 : AV} {F G : List Nat} (r : SlRep h v0 xs F) (r' : SlRep h v1 ys G) : RCalls Try.prog n_slices_EqualFunc_Span [v0, v1, .fn n_impl_SameSpan []] h (.bool (bp (xs = ys))) := by
  refine reader (c_slices_EqualFunc_Span _ _ _) (by simp only [old]) ?_
  refine eqF_spec (w := 6) rfl rfl r r' ?_
  rintro x _ y cs cs' F F' h' _ ⟨w, rfl, q⟩ ⟨w', rfl, q'⟩
  exact s_impl_SameSpan q q'

theorem s_impl_SameTrail {h : AH} {a b : Trail} {v v' : AV} {F F' : List Nat} (r : SlRep h v a.spans F) (r' : SlRep h v' b.spans F') : RCalls Try.prog n_impl_SameTrail [.agg (a.cs v), .agg (b.cs v')] h (.bool (bp (a = b))) := by
  refine reader (c_impl_SameTrail _ _) (by simp only [old]) ?_
  unfold p_impl_SameTrail
  (repeat' first|refine vs ?_|(refine br ?_ ?_<;>intro _<;>try(exfalso;first|omega|contradiction))|((with_reducible refine g_callf n_slices_EqualFunc_Span ?_);(refine aw_rcall_b (s_slices_EqualFunc_Span slr_auto slr_auto) ?_ ?_ <;> intro hn <;> first | replace hn := bp_true hn | replace hn := bp_false hn))|((with_reducible refine g_idx ?_);((first|refine ix ?_|refine ixi ?_|(refine ixg ?_;intro _ _)|(refine ixgi ?_;intro _ _));first|rintro _ _ _ _ _ ⟨rfl,rfl⟩ _|rintro _ _ _ _ _ ⟨_,rfl,_⟩ _|rintro _ _ _ _ _ ⟨_,_,_,_,rfl,rfl,_,_⟩ _|intro _ _ _ _ _ _ _))|(refine sx ?_;intro _ _)|((with_reducible refine g_awp ?_);simp only [g0,g1,g2]))
  all_goals first
    | (refine pf ?_; rintro rfl; first | contradiction | (simp_all; done))
    | (refine pt ?_; cases a; cases b; simp_all; done)
theorem s_spec_SameTrail {h : AH} {a b : Trail} {v v' : AV} {F F' : List Nat} (r : SlRep h v a.spans F) (r' : SlRep h v' b.spans F') : RCalls Try.prog n_spec_SameTrail [.agg (a.cs v), .agg (b.cs v')] h (.bool (bp (a = b))) := by
  refine reader (c_spec_SameTrail _ _) (by simp only [old]) ?_
  unfold p_spec_SameTrail
  (repeat' first|refine vs ?_|(refine br ?_ ?_<;>intro _<;>try(exfalso;first|omega|contradiction))|((with_reducible refine g_callf n_spec_l3Same ?_);(refine aw_rcall_b (s_spec_l3Same slr_auto slr_auto) ?_ ?_ <;> intro hn <;> first | replace hn := bp_true hn | replace hn := bp_false hn))|((with_reducible refine g_idx ?_);((first|refine ix ?_|refine ixi ?_|(refine ixg ?_;intro _ _)|(refine ixgi ?_;intro _ _));first|rintro _ _ _ _ _ ⟨rfl,rfl⟩ _|rintro _ _ _ _ _ ⟨_,rfl,_⟩ _|rintro _ _ _ _ _ ⟨_,_,_,_,rfl,rfl,_,_⟩ _|intro _ _ _ _ _ _ _))|(refine sx ?_;intro _ _)|((with_reducible refine g_awp ?_);simp only [g0,g1,g2]))
  all_goals first
    | (refine pf ?_; rintro rfl; first | contradiction | (simp_all; done))
    | (refine pt ?_; cases a; cases b; simp_all; done)

def itemOk (x : Itm) : Prop := 1 ≤ x.stamp ∧ spanOk x.s
theorem s_impl_ItemOk {h : AH} {x : Itm} {v : AV} {F : List Nat} (ok : Cel.ok x.s) (hs : Sz.sz x ≤ 67108864) (r : SlRep h v x.s.attrs F) : RCalls Try.prog n_impl_ItemOk [.agg (x.cs v)] h (.bool (bp (itemOk x))) := by
  refine reader (c_impl_ItemOk _) (by simp only [old]) ?_
  unfold p_impl_ItemOk
  (repeat' first|refine vs ?_|(refine br ?_ ?_<;>intro _<;>try(exfalso;first|omega|contradiction))|((with_reducible refine g_callf n_impl_SpanOk ?_);(refine aw_rcall_b (s_impl_SpanOk ok hs slr_auto) ?_ ?_ <;> intro hn <;> first | replace hn := bp_true hn | replace hn := bp_false hn))|((with_reducible refine g_idx ?_);((first|refine ix ?_|refine ixi ?_|(refine ixg ?_;intro _ _)|(refine ixgi ?_;intro _ _));first|rintro _ _ _ _ _ ⟨rfl,rfl⟩ _|rintro _ _ _ _ _ ⟨_,rfl,_⟩ _|rintro _ _ _ _ _ ⟨_,_,_,_,rfl,rfl,_,_⟩ _|intro _ _ _ _ _ _ _))|(refine sx ?_;intro _ _)|((with_reducible refine g_awp ?_);simp only [g0,g1,g2]))
  all_goals first
    | exact pt ⟨by omega, by assumption⟩
    | exact pf fun k => by obtain ⟨a1, a2⟩ := k; first | omega | contradiction
theorem s_spec_ItemOk {h : AH} {x : Itm} {v : AV} {F : List Nat} (ok : Cel.ok x.s) (hs : Sz.sz x ≤ 67108864) (r : SlRep h v x.s.attrs F) : RCalls Try.prog n_spec_ItemOk [.agg (x.cs v)] h (.bool (bp (itemOk x))) := by
  refine reader (c_spec_ItemOk _) (by simp only [old]) ?_
  unfold p_spec_ItemOk
  (repeat' first|refine vs ?_|(refine br ?_ ?_<;>intro _<;>try(exfalso;first|omega|contradiction))|((with_reducible refine g_callf n_spec_SpanOk ?_);(refine aw_rcall_b (s_spec_SpanOk ok hs slr_auto) ?_ ?_ <;> intro hn <;> first | replace hn := bp_true hn | replace hn := bp_false hn))|((with_reducible refine g_idx ?_);((first|refine ix ?_|refine ixi ?_|(refine ixg ?_;intro _ _)|(refine ixgi ?_;intro _ _));first|rintro _ _ _ _ _ ⟨rfl,rfl⟩ _|rintro _ _ _ _ _ ⟨_,rfl,_⟩ _|rintro _ _ _ _ _ ⟨_,_,_,_,rfl,rfl,_,_⟩ _|intro _ _ _ _ _ _ _))|(refine sx ?_;intro _ _)|((with_reducible refine g_awp ?_);simp only [g0,g1,g2]))
  all_goals first
    | exact pt ⟨by omega, by assumption⟩
    | exact pf fun k => by obtain ⟨a1, a2⟩ := k; first | omega | contradiction
theorem s_impl_SameItem {h : AH} {a b : Itm} {v v' : AV} {F F' : List Nat} (r : SlRep h v a.s.attrs F) (r' : SlRep h v' b.s.attrs F') : RCalls Try.prog n_impl_SameItem [.agg (a.cs v), .agg (b.cs v')] h (.bool (bp (a = b))) := by
  refine reader (c_impl_SameItem _ _) (by simp only [old]) ?_
  unfold p_impl_SameItem
  (repeat' first|refine vs ?_|(refine br ?_ ?_<;>intro _<;>try(exfalso;first|omega|contradiction))|((with_reducible refine g_callf n_impl_SameSpan ?_);(refine aw_rcall_b (s_impl_SameSpan (a := a.s) (b := b.s) slr_auto slr_auto) ?_ ?_ <;> intro hn <;> first | replace hn := bp_true hn | replace hn := bp_false hn))|((with_reducible refine g_idx ?_);((first|refine ix ?_|refine ixi ?_|(refine ixg ?_;intro _ _)|(refine ixgi ?_;intro _ _));first|rintro _ _ _ _ _ ⟨rfl,rfl⟩ _|rintro _ _ _ _ _ ⟨_,rfl,_⟩ _|rintro _ _ _ _ _ ⟨_,_,_,_,rfl,rfl,_,_⟩ _|intro _ _ _ _ _ _ _))|(refine sx ?_;intro _ _)|((with_reducible refine g_awp ?_);simp only [g0,g1,g2]))
  all_goals first
    | (refine pf ?_; rintro rfl; first | contradiction | (simp_all; done))
    | (refine pt ?_; cases a; cases b; simp_all; done)
theorem s_spec_SameItem {h : AH} {a b : Itm} {v v' : AV} {F F' : List Nat} (r : SlRep h v a.s.attrs F) (r' : SlRep h v' b.s.attrs F') : RCalls Try.prog n_spec_SameItem [.agg (a.cs v), .agg (b.cs v')] h (.bool (bp (a = b))) := by
  refine reader (c_spec_SameItem _ _) (by simp only [old]) ?_
  unfold p_spec_SameItem
  (repeat' first|refine vs ?_|(refine br ?_ ?_<;>intro _<;>try(exfalso;first|omega|contradiction))|((with_reducible refine g_callf n_spec_SameSpan ?_);(refine aw_rcall_b (s_spec_SameSpan (a := a.s) (b := b.s) slr_auto slr_auto) ?_ ?_ <;> intro hn <;> first | replace hn := bp_true hn | replace hn := bp_false hn))|((with_reducible refine g_idx ?_);((first|refine ix ?_|refine ixi ?_|(refine ixg ?_;intro _ _)|(refine ixgi ?_;intro _ _));first|rintro _ _ _ _ _ ⟨rfl,rfl⟩ _|rintro _ _ _ _ _ ⟨_,rfl,_⟩ _|rintro _ _ _ _ _ ⟨_,_,_,_,rfl,rfl,_,_⟩ _|intro _ _ _ _ _ _ _))|(refine sx ?_;intro _ _)|((with_reducible refine g_awp ?_);simp only [g0,g1,g2]))
  all_goals first
    | (refine pf ?_; rintro rfl; first | contradiction | (simp_all; done))
    | (refine pt ?_; cases a; cases b; simp_all; done)
end Go.Proofs.Ytpcgbddmdipfbaa
