/- Lists of attributes; things. -/
import Derived.Test.YtpcgbddmdipfbaaW2
set_option linter.unusedSimpArgs false
set_option linter.unusedVariables false
namespace Go.Proofs.Ytpcgbddmdipfbaa
open Go Go.Ab
section
/- impl.AttrsOk -/
def p_impl_AttrsOk (x0 : AV) : Prog := .op (.len 0 x0) fun v1 => .loop [AV.int .i64 0] (fun vs2 => .op (.bin 0 .lss (g vs2 0) v1) fun v4 => .ite v4 (.op (.idx 4 x0 (g vs2 0)) fun v5 => .op (.ldn 4 v5) fun v6 => .op (.alloc [AV.str ⟨#[]⟩, AV.bool false, AV.int .i64 0, AV.str ⟨#[]⟩]) fun v7 => .op (.st 4 v7 v6) fun v8 => .op (.ldn 4 v7) fun v9 => .op (.call n_impl_AttrOk [v9]) fun v10 => .op (.una .not v10) fun v11 => .gop v11 false (.mv (g vs2 0)) fun v12 => .gop v11 false (.bin 0 .gtr v12 (AV.int .i64 0)) fun v13 => .gop v11 false (.mv v13) fun v14 => .gop v14 true (.mv x0) fun v15 => .gop v14 true (.mv (g vs2 0)) fun v16 => .gop v14 true (.bin 0 .sub v16 (AV.int .i64 1)) fun v17 => .gop v14 true (.idx 4 v15 v17) fun v18 => .gop v14 true (.fad 0 v18) fun v19 => .gop v14 true (.ld1 v19) fun v20 => .gop v14 true (.fad 0 v7) fun v21 => .gop v14 true (.ld1 v21) fun v22 => .gop v14 true (.bin 1 .geq v20 v22) fun v23 => .gop v11 false (.pick v14 v23 (AV.bool false)) fun v24 => .op (.pick v11 (AV.bool true) v24) fun v25 => .ite v25 (.fin [.val (AV.bool false)]) (.op (.bin 0 .add (g vs2 0) (AV.int .i64 1)) fun v26 => .leaf 0 [v26])) (.leaf 2 [g vs2 0])) fun t3 vs2 => tsel t3 1 (.leaf 1 vs2) (tsel t3 2 (.op (.len 0 x0) fun v27 => .op (.bin 0 .leq v27 (AV.int .i64 4)) fun v28 => .fin [.val v28]) .bad)
theorem c_impl_AttrsOk (x0 : AV) : CC Try.prog n_impl_AttrsOk [x0] (p_impl_AttrsOk x0) := cc Try.func205 [0, 5, 6, 7] (fun r => if r = 4 then [(0, []), (1, []), (2, []), (3, []), (4, []), (5, []), (6, []), (7, []), (8, []), (9, []), (10, []), (11, []), (12, []), (13, []), (14, []), (15, []), (16, []), (17, [])] else []) (by kernel_rfl)
/- spec.AttrsOk -/
def p_spec_AttrsOk (x0 : AV) : Prog := .loop [AV.int .i64 0] (fun vs1 => .op (.len 0 x0) fun v3 => .op (.bin 0 .lss (g vs1 0) v3) fun v4 => .ite v4 (.op (.idx 4 x0 (g vs1 0)) fun v5 => .op (.ldn 4 v5) fun v6 => .op (.call n_spec_AttrOk [v6]) fun v7 => .op (.una .not v7) fun v8 => .gop v8 false (.mv (g vs1 0)) fun v9 => .gop v8 false (.bin 0 .gtr v9 (AV.int .i64 0)) fun v10 => .gop v8 false (.mv v10) fun v11 => .gop v11 true (.mv x0) fun v12 => .gop v11 true (.mv (g vs1 0)) fun v13 => .gop v11 true (.bin 0 .sub v13 (AV.int .i64 1)) fun v14 => .gop v11 true (.idx 4 v12 v14) fun v15 => .gop v11 true (.fad 0 v15) fun v16 => .gop v11 true (.ld1 v16) fun v17 => .gop v11 true (.mv x0) fun v18 => .gop v11 true (.mv (g vs1 0)) fun v19 => .gop v11 true (.idx 4 v18 v19) fun v20 => .gop v11 true (.fad 0 v20) fun v21 => .gop v11 true (.ld1 v21) fun v22 => .gop v11 true (.bin 1 .geq v17 v22) fun v23 => .gop v8 false (.pick v11 v23 (AV.bool false)) fun v24 => .op (.pick v8 (AV.bool true) v24) fun v25 => .ite v25 (.fin [.val (AV.bool false)]) (.op (.bin 0 .add (g vs1 0) (AV.int .i64 1)) fun v26 => .leaf 0 [v26])) (.leaf 2 [g vs1 0])) fun t2 vs1 => tsel t2 1 (.leaf 1 vs1) (tsel t2 2 (.op (.len 0 x0) fun v27 => .op (.bin 0 .leq v27 (AV.int .i64 4)) fun v28 => .fin [.val v28]) .bad)
theorem c_spec_AttrsOk (x0 : AV) : CC Try.prog n_spec_AttrsOk [x0] (p_spec_AttrsOk x0) := cc Try.func206 [0, 3] (fun r => if r = 4 then [(0, []), (1, []), (2, []), (3, []), (4, []), (5, []), (6, []), (7, []), (8, []), (9, []), (10, []), (11, []), (12, []), (13, []), (14, []), (15, []), (16, []), (17, []), (18, []), (19, []), (20, []), (21, []), (22, []), (23, [])] else []) (by kernel_rfl)
/- impl.SizeOf -/
def p_impl_SizeOf (x0 : AV) : Prog := .op (.box x0) fun v1 => .op (.fad 5 v1) fun v2 => .op (.ld1 v2) fun v3 => .op (.len 0 v3) fun v4 => .loop [AV.int .i64 12, AV.int .i64 0] (fun vs5 => .op (.bin 0 .lss (g vs5 1) v4) fun v7 => .ite v7 (.op (.idx 4 v3 (g vs5 1)) fun v8 => .op (.ldn 4 v8) fun v9 => .op (.alloc [AV.str ⟨#[]⟩, AV.bool false, AV.int .i64 0, AV.str ⟨#[]⟩]) fun v10 => .op (.st 4 v10 v9) fun v11 => .op (.ldn 4 v10) fun v12 => .op (.call n_impl_AttrSize [v12]) fun v13 => .op (.bin 0 .add (g vs5 0) v13) fun v14 => .op (.bin 0 .add (g vs5 1) (AV.int .i64 1)) fun v15 => .leaf 0 [v14, v15]) (.leaf 2 [g vs5 0, g vs5 1])) fun t6 vs5 => tsel t6 1 (.leaf 1 vs5) (tsel t6 2 (.fin [.val (g vs5 0)]) .bad)
theorem c_impl_SizeOf (x0 : AV) : CC Try.prog n_impl_SizeOf [x0] (p_impl_SizeOf x0) := cc Try.func100 [3, 7, 8, 9] (fun _ => []) (by kernel_rfl)
/- spec.SizeOf -/
def p_spec_SizeOf (x0 : AV) : Prog := .op (.box x0) fun v1 => .loop [AV.int .i64 12, AV.int .i64 0] (fun vs2 => .op (.fad 5 v1) fun v4 => .op (.ld1 v4) fun v5 => .op (.len 0 v5) fun v6 => .op (.bin 0 .lss (g vs2 1) v6) fun v7 => .ite v7 (.op (.fad 5 v1) fun v8 => .op (.ld1 v8) fun v9 => .op (.idx 4 v9 (g vs2 1)) fun v10 => .op (.ldn 4 v10) fun v11 => .op (.call n_spec_AttrSize [v11]) fun v12 => .op (.bin 0 .add (g vs2 0) v12) fun v13 => .op (.bin 0 .add (g vs2 1) (AV.int .i64 1)) fun v14 => .leaf 0 [v13, v14]) (.leaf 2 [g vs2 0, g vs2 1])) fun t3 vs2 => tsel t3 1 (.leaf 1 vs2) (tsel t3 2 (.fin [.val (g vs2 0)]) .bad)
theorem c_spec_SizeOf (x0 : AV) : CC Try.prog n_spec_SizeOf [x0] (p_spec_SizeOf x0) := cc Try.func207 [1, 3, 4] (fun _ => []) (by kernel_rfl)
/- impl.SpanOk -/
def p_impl_SpanOk (x0 : AV) : Prog := .op (.box x0) fun v1 => .op (.fad 0 v1) fun v2 => .op (.ld1 v2) fun v3 => .op (.call n_impl_within [v3, AV.int .i64 1, AV.int .i64 999]) fun v4 => .gop v4 true (.fad 1 v1) fun v5 => .gop v4 true (.ld1 v5) fun v6 => .gop v4 true (.call n_impl_within [v6, AV.int .i64 1, AV.int .i64 999]) fun v7 => .op (.pick v4 v7 (AV.bool false)) fun v8 => .gop v8 true (.fad 3 v1) fun v9 => .gop v8 true (.ld1 v9) fun v10 => .gop v8 true (.call n_impl_within [v10, AV.int .i64 0, AV.int .i64 99999]) fun v11 => .op (.pick v8 v11 (AV.bool false)) fun v12 => .gop v12 true (.fad 2 v1) fun v13 => .gop v12 true (.ld1 v13) fun v14 => .gop v12 true (.fad 3 v1) fun v15 => .gop v12 true (.ld1 v15) fun v16 => .gop v12 true (.call n_impl_within [v14, AV.int .i64 0, v16]) fun v17 => .op (.pick v12 v17 (AV.bool false)) fun v18 => .gop v18 true (.fad 5 v1) fun v19 => .gop v18 true (.ld1 v19) fun v20 => .gop v18 true (.call n_impl_AttrsOk [v20]) fun v21 => .op (.pick v18 v21 (AV.bool false)) fun v22 => .gop v22 true (.ldn 6 v1) fun v23 => .gop v22 true (.call n_impl_SizeOf [v23]) fun v24 => .gop v22 true (.bin 0 .leq v24 (AV.int .i64 96)) fun v25 => .op (.pick v22 v25 (AV.bool false)) fun v26 => .fin [.val v26]
theorem c_impl_SpanOk (x0 : AV) : CC Try.prog n_impl_SpanOk [x0] (p_impl_SpanOk x0) := cc Try.func161 [] (fun _ => []) (by kernel_rfl)
/- spec.SpanOk -/
def p_spec_SpanOk (x0 : AV) : Prog := .op (.box x0) fun v1 => .op (.fad 0 v1) fun v2 => .op (.ld1 v2) fun v3 => .op (.call n_spec_l1In [v3, AV.int .i64 1, AV.int .i64 999]) fun v4 => .gop v4 true (.fad 1 v1) fun v5 => .gop v4 true (.ld1 v5) fun v6 => .gop v4 true (.call n_spec_l1In [v6, AV.int .i64 1, AV.int .i64 999]) fun v7 => .op (.pick v4 v7 (AV.bool false)) fun v8 => .gop v8 true (.fad 2 v1) fun v9 => .gop v8 true (.ld1 v9) fun v10 => .gop v8 true (.call n_spec_l1In [v10, AV.int .i64 0, AV.int .i64 99999]) fun v11 => .op (.pick v8 v11 (AV.bool false)) fun v12 => .gop v12 true (.fad 3 v1) fun v13 => .gop v12 true (.ld1 v13) fun v14 => .gop v12 true (.fad 2 v1) fun v15 => .gop v12 true (.ld1 v15) fun v16 => .gop v12 true (.call n_spec_l1In [v14, v16, AV.int .i64 99999]) fun v17 => .op (.pick v12 v17 (AV.bool false)) fun v18 => .gop v18 true (.fad 5 v1) fun v19 => .gop v18 true (.ld1 v19) fun v20 => .gop v18 true (.call n_spec_AttrsOk [v20]) fun v21 => .op (.pick v18 v21 (AV.bool false)) fun v22 => .gop v22 true (.ldn 6 v1) fun v23 => .gop v22 true (.call n_spec_SizeOf [v23]) fun v24 => .gop v22 true (.bin 0 .leq v24 (AV.int .i64 96)) fun v25 => .op (.pick v22 v25 (AV.bool false)) fun v26 => .fin [.val v26]
theorem c_spec_SpanOk (x0 : AV) : CC Try.prog n_spec_SpanOk [x0] (p_spec_SpanOk x0) := cc Try.func164 [] (fun _ => []) (by kernel_rfl)
/- impl.TotalOf -/
def p_impl_TotalOf (x0 : AV) : Prog := .op (.len 0 x0) fun v1 => .loop [AV.int .i64 0, AV.int .i64 0] (fun vs2 => .op (.bin 0 .lss (g vs2 1) v1) fun v4 => .ite v4 (.op (.idx 6 x0 (g vs2 1)) fun v5 => .op (.ldn 6 v5) fun v6 => .op (.alloc z6_822) fun v7 => .op (.st 6 v7 v6) fun v8 => .op (.ldn 6 v7) fun v9 => .op (.call n_impl_SizeOf [v9]) fun v10 => .op (.bin 0 .add (g vs2 0) v10) fun v11 => .op (.bin 0 .add (g vs2 1) (AV.int .i64 1)) fun v12 => .leaf 0 [v11, v12]) (.leaf 2 [g vs2 0, g vs2 1])) fun t3 vs2 => tsel t3 1 (.leaf 1 vs2) (tsel t3 2 (.fin [.val (g vs2 0)]) .bad)
theorem c_impl_TotalOf (x0 : AV) : CC Try.prog n_impl_TotalOf [x0] (p_impl_TotalOf x0) := cc Try.func172 [3, 6, 7, 8] (fun _ => []) (by kernel_rfl)
/- spec.TotalOf -/
def p_spec_TotalOf (x0 : AV) : Prog := .loop [AV.int .i64 0, AV.int .i64 0] (fun vs1 => .op (.len 0 x0) fun v3 => .op (.bin 0 .lss (g vs1 1) v3) fun v4 => .ite v4 (.op (.idx 6 x0 (g vs1 1)) fun v5 => .op (.ldn 6 v5) fun v6 => .op (.call n_spec_SizeOf [v6]) fun v7 => .op (.bin 0 .add (g vs1 0) v7) fun v8 => .op (.bin 0 .add (g vs1 1) (AV.int .i64 1)) fun v9 => .leaf 0 [v8, v9]) (.leaf 2 [g vs1 0, g vs1 1])) fun t2 vs1 => tsel t2 1 (.leaf 1 vs1) (tsel t2 2 (.fin [.val (g vs1 0)]) .bad)
theorem c_spec_TotalOf (x0 : AV) : CC Try.prog n_spec_TotalOf [x0] (p_spec_TotalOf x0) := cc Try.func173 [0, 3, 4] (fun _ => []) (by kernel_rfl)
end
def kge (a b : ByteArray) : Bool := !(Op.bytesLess a.toList b.toList)
def attrsAt (l : List Attr) (i : Nat) (a : Attr) : Prop := attrOk a ∧ ∀ b, 0 < i → l[((i : Int) - 1).toNat]? = some b → kge b.key a.key = false
def attrsOk (l : List Attr) : Prop := (∀ i a, l[i]? = some a → attrsAt l i a) ∧ (l.length : Int) ≤ 4

theorem s_impl_AttrsOk {h : AH} {l : List Attr} {v : AV} {F : List Nat} (ok : ∀ x ∈ l, Cel.ok x) (r : SlRep h v l F) : RCalls Try.prog n_impl_AttrsOk [v] h (.bool (bp (attrsOk l))) := by
  refine reader (c_impl_AttrsOk _) (by simp only [old]) ?_
  unfold p_impl_AttrsOk
  have hsm := r.small
  refine vs ?_
  refine aw_upto l.length (fun i vs h1 => vs = [.int .i64 (i : Int)] ∧ i ≤ l.length ∧ Ext h h1 ∧ Upto l (attrsAt l) i) ⟨rfl, Nat.zero_le _, Ext.refl _, up0⟩ ?_
  rintro i vs h1 _ ⟨rfl, hi, e1, hu⟩
  simp only [g0]
  refine br (fun hlt => ?_) (fun hge => ?_)
  · obtain ⟨x, hx, -, -⟩ := drop_step (show i < l.length by omega)
    have okx := ok x (List.mem_of_getElem? hx)
    (repeat' first|refine vs ?_|(refine br ?_ ?_<;>intro _<;>try(exfalso;first|omega|contradiction))|((with_reducible refine g_callf n_impl_AttrOk ?_);(refine aw_rcall_b (s_impl_AttrOk okx) ?_ ?_ <;> intro hn <;> first | replace hn := bp_true hn | replace hn := bp_false hn))|((with_reducible refine g_idx ?_);((first|refine ix ?_|refine ixi ?_|(refine ixg ?_;intro _ _)|(refine ixgi ?_;intro _ _));first|rintro _ _ _ _ _ ⟨rfl,rfl⟩ _|rintro _ _ _ _ _ ⟨_,rfl,_⟩ _|rintro _ _ _ _ _ ⟨_,_,_,_,rfl,rfl,_,_⟩ _|intro _ _ _ _ _ _ _))|(refine sx ?_;intro _ _)|((with_reducible refine g_awp ?_);simp only [g0,g1,g2]))
    all_goals first
      | (refine pf fun k => ?_; have k := k.1 i x hx; simp_all [attrsAt, kge]; done)
      | (refine ⟨by omega, rfl, by omega, ext_auto, upS hu hx ⟨hn, fun b h0 hb => ?_⟩⟩; first | (exfalso; omega) | (simp_all [kge]; done))
  · (repeat' first|refine vs ?_|(refine br ?_ ?_<;>intro _<;>try(exfalso;first|omega|contradiction))|((with_reducible refine g_idx ?_);((first|refine ix ?_|refine ixi ?_|(refine ixg ?_;intro _ _)|(refine ixgi ?_;intro _ _));first|rintro _ _ _ _ _ ⟨rfl,rfl⟩ _|rintro _ _ _ _ _ ⟨_,rfl,_⟩ _|rintro _ _ _ _ _ ⟨_,_,_,_,rfl,rfl,_,_⟩ _|intro _ _ _ _ _ _ _))|(refine sx ?_;intro _ _)|((with_reducible refine g_awp ?_);simp only [g0,g1,g2]))
    all_goals (have e : i = l.length := (by omega); rw [e] at hu; first | exact pt ⟨upEnd hu, by omega⟩ | exact pf fun k => by have := k.2; omega)
theorem s_spec_AttrsOk {h : AH} {l : List Attr} {v : AV} {F : List Nat} (ok : ∀ x ∈ l, Cel.ok x) (r : SlRep h v l F) : RCalls Try.prog n_spec_AttrsOk [v] h (.bool (bp (attrsOk l))) := by
  refine reader (c_spec_AttrsOk _) (by simp only [old]) ?_
  unfold p_spec_AttrsOk
  have hsm := r.small
  refine aw_upto l.length (fun i vs h1 => vs = [.int .i64 (i : Int)] ∧ i ≤ l.length ∧ Ext h h1 ∧ Upto l (attrsAt l) i) ⟨rfl, Nat.zero_le _, Ext.refl _, up0⟩ ?_
  rintro i vs h1 _ ⟨rfl, hi, e1, hu⟩
  simp only [g0]
  refine vs ?_
  refine br (fun hlt => ?_) (fun hge => ?_)
  · obtain ⟨x, hx, -, -⟩ := drop_step (show i < l.length by omega)
    have okx := ok x (List.mem_of_getElem? hx)
    (repeat' first|refine vs ?_|(refine br ?_ ?_<;>intro _<;>try(exfalso;first|omega|contradiction))|((with_reducible refine g_callf n_spec_AttrOk ?_);(refine aw_rcall_b (s_spec_AttrOk okx) ?_ ?_ <;> intro hn <;> first | replace hn := bp_true hn | replace hn := bp_false hn))|((with_reducible refine g_idx ?_);((first|refine ix ?_|refine ixi ?_|(refine ixg ?_;intro _ _)|(refine ixgi ?_;intro _ _));first|rintro _ _ _ _ _ ⟨rfl,rfl⟩ _|rintro _ _ _ _ _ ⟨_,rfl,_⟩ _|rintro _ _ _ _ _ ⟨_,_,_,_,rfl,rfl,_,_⟩ _|intro _ _ _ _ _ _ _))|(refine sx ?_;intro _ _)|((with_reducible refine g_awp ?_);simp only [g0,g1,g2]))
    all_goals first
      | (refine pf fun k => ?_; have k := k.1 i x hx; simp_all [attrsAt, kge]; done)
      | (refine ⟨by omega, rfl, by omega, ext_auto, upS hu hx ⟨hn, fun b h0 hb => ?_⟩⟩; first | (exfalso; omega) | (simp_all [kge]; done))
  · (repeat' first|refine vs ?_|(refine br ?_ ?_<;>intro _<;>try(exfalso;first|omega|contradiction))|((with_reducible refine g_idx ?_);((first|refine ix ?_|refine ixi ?_|(refine ixg ?_;intro _ _)|(refine ixgi ?_;intro _ _));first|rintro _ _ _ _ _ ⟨rfl,rfl⟩ _|rintro _ _ _ _ _ ⟨_,rfl,_⟩ _|rintro _ _ _ _ _ ⟨_,_,_,_,rfl,rfl,_,_⟩ _|intro _ _ _ _ _ _ _))|(refine sx ?_;intro _ _)|((with_reducible refine g_awp ?_);simp only [g0,g1,g2]))
    all_goals (have e : i = l.length := (by omega); rw [e] at hu; first | exact pt ⟨upEnd hu, by omega⟩ | exact pf fun k => by have := k.2; omega)

/-! ### Sizes -/
def sumI {α : Type} (f : α → Int) : List α → Int
  | [] => 0
  | x :: l => f x + sumI f l
theorem sumI_app {α : Type} (f : α → Int) : ∀ l r : List α, sumI f (l ++ r) = sumI f l + sumI f r
  | [], r => by simp [sumI]
  | x :: l, r => by simp only [List.cons_append, sumI, sumI_app f l]; omega
theorem sumI_take {α : Type} (f : α → Int) {xs : List α} {i : Nat} {x : α} (ht : xs.take (i + 1) = xs.take i ++ [x]) : sumI f (xs.take (i + 1)) = sumI f (xs.take i) + f x := by rw [ht, sumI_app]; simp [sumI]
theorem sumI_b {α : Type} [Sz α] {f : α → Int} {a b : Int} (hb : ∀ x, 0 ≤ f x ∧ f x ≤ a + b * (Sz.sz x : Nat)) : ∀ l : List α, 0 ≤ sumI f l ∧ sumI f l ≤ a * l.length + b * (szs l : Nat)
  | [] => by simp [sumI, szs]
  | x :: l => by
    have h1 := hb x; have h2 := sumI_b hb l
    simp only [sumI, szs, List.length_cons]
    have e1 : a * ((l.length + 1 : Nat) : Int) = a * l.length + a := by rw [Int.natCast_add, Int.mul_add]; simp
    have e2 : b * ((Sz.sz x + szs l : Nat) : Int) = b * (Sz.sz x : Nat) + b * (szs l : Nat) := by rw [Int.natCast_add, Int.mul_add]
    omega
theorem attrSize_b (a : Attr) : 0 ≤ attrSize a ∧ attrSize a ≤ 4 + 1 * (Sz.sz a : Nat) := by
  have : Sz.sz a = a.key.size + a.text.size := rfl
  unfold attrSize; split <;> omega
def spanSize (s : Span) : Int := 12 + sumI attrSize s.attrs
theorem spanSize_b (s : Span) : 0 ≤ spanSize s ∧ spanSize s ≤ 12 + 4 * (Sz.sz s : Nat) := by
  have : Sz.sz s = s.attrs.length + szs s.attrs := rfl
  have := sumI_b attrSize_b s.attrs
  unfold spanSize; omega
theorem s_impl_SizeOf {h : AH} {s : Span} {v : AV} {F : List Nat} (hs : Sz.sz s ≤ 67108864) (r : SlRep h v s.attrs F) : RCalls Try.prog n_impl_SizeOf [.agg (s.cs v)] h (.int .i64 (spanSize s)) := by
  refine reader (c_impl_SizeOf _) (by simp only [old]) ?_
  unfold p_impl_SizeOf
  have hsz : Sz.sz s = s.attrs.length + szs s.attrs := rfl
  have hsm := r.small
  refine vs ?_
  refine aw_upto s.attrs.length (fun i vs h1 => vs = [.int .i64 (12 + sumI attrSize (s.attrs.take i)), .int .i64 (i : Int)] ∧ i ≤ s.attrs.length ∧ Ext h h1) ⟨rfl, Nat.zero_le _, ext_auto⟩ ?_
  rintro i vs h1 _ ⟨rfl, hi, e1⟩
  simp only [g0, g1]
  refine br (fun hlt => ?_) (fun hge => ?_)
  · obtain ⟨x, hx, -, ht⟩ := drop_step (show i < s.attrs.length by omega)
    have h2 := attrSize_b x
    have h3 := sumI_b attrSize_b (s.attrs.take i)
    have h4 := szs_take_le s.attrs i
    have h5 := szs_mem (List.mem_of_getElem? hx)
    rw [List.length_take] at h3
    (repeat' first|refine vs ?_|(refine br ?_ ?_<;>intro _<;>try(exfalso;first|omega|contradiction))|((with_reducible refine g_callf n_impl_AttrSize ?_);refine aw_rcall (s_impl_AttrSize (by omega)) ?_)|((with_reducible refine g_idx ?_);((first|refine ix ?_|refine ixi ?_|(refine ixg ?_;intro _ _)|(refine ixgi ?_;intro _ _));first|rintro _ _ _ _ _ ⟨rfl,rfl⟩ _|rintro _ _ _ _ _ ⟨_,rfl,_⟩ _|rintro _ _ _ _ _ ⟨_,_,_,_,rfl,rfl,_,_⟩ _|intro _ _ _ _ _ _ _))|(refine sx ?_;intro _ _)|((with_reducible refine g_awp ?_);simp only [g0,g1,g2]))
    exact ⟨by omega, by rw [sumI_take _ ht, Int.add_assoc], by omega, ext_auto⟩
  · (repeat' first|refine vs ?_|(refine br ?_ ?_<;>intro _<;>try(exfalso;first|omega|contradiction))|((with_reducible refine g_idx ?_);((first|refine ix ?_|refine ixi ?_|(refine ixg ?_;intro _ _)|(refine ixgi ?_;intro _ _));first|rintro _ _ _ _ _ ⟨rfl,rfl⟩ _|rintro _ _ _ _ _ ⟨_,rfl,_⟩ _|rintro _ _ _ _ _ ⟨_,_,_,_,rfl,rfl,_,_⟩ _|intro _ _ _ _ _ _ _))|(refine sx ?_;intro _ _)|((with_reducible refine g_awp ?_);simp only [g0,g1,g2]))
    refine pi ?_
    rw [show i = s.attrs.length by omega, List.take_length]; rfl
theorem s_spec_SizeOf {h : AH} {s : Span} {v : AV} {F : List Nat} (hs : Sz.sz s ≤ 67108864) (r : SlRep h v s.attrs F) : RCalls Try.prog n_spec_SizeOf [.agg (s.cs v)] h (.int .i64 (spanSize s)) := by
  refine reader (c_spec_SizeOf _) (by simp only [old]) ?_
  unfold p_spec_SizeOf
  have hsz : Sz.sz s = s.attrs.length + szs s.attrs := rfl
  have hsm := r.small
  refine vs ?_
  refine aw_upto s.attrs.length (fun i vs h1 => vs = [.int .i64 (12 + sumI attrSize (s.attrs.take i)), .int .i64 (i : Int)] ∧ i ≤ s.attrs.length ∧ Ext (h.push ⟨s.cs v, 0, 0⟩) h1) ⟨rfl, Nat.zero_le _, ext_auto⟩ ?_
  rintro i vs h1 _ ⟨rfl, hi, e1⟩
  simp only [g0, g1]
  refine vs ?_
  refine br (fun hlt => ?_) (fun hge => ?_)
  · obtain ⟨x, hx, -, ht⟩ := drop_step (show i < s.attrs.length by omega)
    have h2 := attrSize_b x
    have h3 := sumI_b attrSize_b (s.attrs.take i)
    have h4 := szs_take_le s.attrs i
    have h5 := szs_mem (List.mem_of_getElem? hx)
    rw [List.length_take] at h3
    (repeat' first|refine vs ?_|(refine br ?_ ?_<;>intro _<;>try(exfalso;first|omega|contradiction))|((with_reducible refine g_callf n_spec_AttrSize ?_);refine aw_rcall (s_spec_AttrSize (by omega)) ?_)|((with_reducible refine g_idx ?_);((first|refine ix ?_|refine ixi ?_|(refine ixg ?_;intro _ _)|(refine ixgi ?_;intro _ _));first|rintro _ _ _ _ _ ⟨rfl,rfl⟩ _|rintro _ _ _ _ _ ⟨_,rfl,_⟩ _|rintro _ _ _ _ _ ⟨_,_,_,_,rfl,rfl,_,_⟩ _|intro _ _ _ _ _ _ _))|(refine sx ?_;intro _ _)|((with_reducible refine g_awp ?_);simp only [g0,g1,g2]))
    exact ⟨by omega, by rw [sumI_take _ ht, Int.add_assoc], by omega, ext_auto⟩
  · (repeat' first|refine vs ?_|(refine br ?_ ?_<;>intro _<;>try(exfalso;first|omega|contradiction))|((with_reducible refine g_idx ?_);((first|refine ix ?_|refine ixi ?_|(refine ixg ?_;intro _ _)|(refine ixgi ?_;intro _ _));first|rintro _ _ _ _ _ ⟨rfl,rfl⟩ _|rintro _ _ _ _ _ ⟨_,rfl,_⟩ _|rintro _ _ _ _ _ ⟨_,_,_,_,rfl,rfl,_,_⟩ _|intro _ _ _ _ _ _ _))|(refine sx ?_;intro _ _)|((with_reducible refine g_awp ?_);simp only [g0,g1,g2]))
    refine pi ?_
    rw [show i = s.attrs.length by omega, List.take_length]; rfl

def spanOk (s : Span) : Prop := (1 ≤ s.trace ∧ s.trace ≤ 999) ∧ (1 ≤ s.id ∧ s.id ≤ 999) ∧ (0 ≤ s.start ∧ s.start ≤ s.fin ∧ s.fin ≤ 99999) ∧ attrsOk s.attrs ∧ spanSize s ≤ 96
theorem s_impl_SpanOk {h : AH} {s : Span} {v : AV} {F : List Nat} (ok : Cel.ok s) (hs : Sz.sz s ≤ 67108864) (r : SlRep h v s.attrs F) : RCalls Try.prog n_impl_SpanOk [.agg (s.cs v)] h (.bool (bp (spanOk s))) := by
  refine reader (c_impl_SpanOk _) (by simp only [old]) ?_
  unfold p_impl_SpanOk
  obtain ⟨k1, k2, k3, k4, k5⟩ := ok
  (repeat' first|refine vs ?_|(refine br ?_ ?_<;>intro _<;>try(exfalso;first|omega|contradiction))|((with_reducible refine g_callf n_impl_within ?_);(refine aw_rcall_b s_impl_within ?_ ?_ <;> intro hb <;> first | replace hb := inB_t hb | replace hb := inB_f hb))|((with_reducible refine g_callf n_impl_AttrsOk ?_);(refine aw_rcall_b (s_impl_AttrsOk k5 slr_auto) ?_ ?_ <;> intro hn <;> first | replace hn := bp_true hn | replace hn := bp_false hn))|((with_reducible refine g_callf n_impl_SizeOf ?_);refine aw_rcall (s_impl_SizeOf hs slr_auto) ?_)|((with_reducible refine g_idx ?_);((first|refine ix ?_|refine ixi ?_|(refine ixg ?_;intro _ _)|(refine ixgi ?_;intro _ _));first|rintro _ _ _ _ _ ⟨rfl,rfl⟩ _|rintro _ _ _ _ _ ⟨_,rfl,_⟩ _|rintro _ _ _ _ _ ⟨_,_,_,_,rfl,rfl,_,_⟩ _|intro _ _ _ _ _ _ _))|(refine sx ?_;intro _ _)|((with_reducible refine g_awp ?_);simp only [g0,g1,g2]))
  all_goals first
    | exact pt ⟨by omega, by omega, by omega, by assumption, by omega⟩
    | exact pf fun k => by obtain ⟨a1, a2, a3, a4, a5⟩ := k; first | omega | contradiction
theorem s_spec_SpanOk {h : AH} {s : Span} {v : AV} {F : List Nat} (ok : Cel.ok s) (hs : Sz.sz s ≤ 67108864) (r : SlRep h v s.attrs F) : RCalls Try.prog n_spec_SpanOk [.agg (s.cs v)] h (.bool (bp (spanOk s))) := by
  refine reader (c_spec_SpanOk _) (by simp only [old]) ?_
  unfold p_spec_SpanOk
  obtain ⟨k1, k2, k3, k4, k5⟩ := ok
  (repeat' first|refine vs ?_|(refine br ?_ ?_<;>intro _<;>try(exfalso;first|omega|contradiction))|((with_reducible refine g_callf n_spec_l1In ?_);(refine aw_rcall_b s_spec_l1In ?_ ?_ <;> intro hb <;> first | replace hb := inB_t hb | replace hb := inB_f hb))|((with_reducible refine g_callf n_spec_AttrsOk ?_);(refine aw_rcall_b (s_spec_AttrsOk k5 slr_auto) ?_ ?_ <;> intro hn <;> first | replace hn := bp_true hn | replace hn := bp_false hn))|((with_reducible refine g_callf n_spec_SizeOf ?_);refine aw_rcall (s_spec_SizeOf hs slr_auto) ?_)|((with_reducible refine g_idx ?_);((first|refine ix ?_|refine ixi ?_|(refine ixg ?_;intro _ _)|(refine ixgi ?_;intro _ _));first|rintro _ _ _ _ _ ⟨rfl,rfl⟩ _|rintro _ _ _ _ _ ⟨_,rfl,_⟩ _|rintro _ _ _ _ _ ⟨_,_,_,_,rfl,rfl,_,_⟩ _|intro _ _ _ _ _ _ _))|(refine sx ?_;intro _ _)|((with_reducible refine g_awp ?_);simp only [g0,g1,g2]))
  all_goals first
    | exact pt ⟨by omega, by omega, by omega, by assumption, by omega⟩
    | exact pf fun k => by obtain ⟨a1, a2, a3, a4, a5⟩ := k; first | omega | contradiction

theorem s_impl_TotalOf {h : AH} {l : List Span} {v : AV} {F : List Nat} (hs : l.length + szs l ≤ 67108864) (r : SlRep h v l F) : RCalls Try.prog n_impl_TotalOf [v] h (.int .i64 (sumI spanSize l)) := by
  refine reader (c_impl_TotalOf _) (by simp only [old]) ?_
  unfold p_impl_TotalOf
  have hsm := r.small
  refine vs ?_
  refine aw_upto l.length (fun i vs h1 => vs = [.int .i64 (sumI spanSize (l.take i)), .int .i64 (i : Int)] ∧ i ≤ l.length ∧ Ext h h1) ⟨rfl, Nat.zero_le _, ext_auto⟩ ?_
  rintro i vs h1 _ ⟨rfl, hi, e1⟩
  simp only [g0, g1]
  refine br (fun hlt => ?_) (fun hge => ?_)
  · obtain ⟨x, hx, -, ht⟩ := drop_step (show i < l.length by omega)
    have h2 := spanSize_b x
    have h3 := sumI_b spanSize_b (l.take i)
    have h4 := szs_take_le l i
    have h5 := szs_mem (List.mem_of_getElem? hx)
    rw [List.length_take] at h3
    (repeat' first|refine vs ?_|(refine br ?_ ?_<;>intro _<;>try(exfalso;first|omega|contradiction))|((with_reducible refine g_callf n_impl_SizeOf ?_);refine aw_rcall (s_impl_SizeOf (by omega) slr_auto) ?_)|((with_reducible refine g_idx ?_);((first|refine ix ?_|refine ixi ?_|(refine ixg ?_;intro _ _)|(refine ixgi ?_;intro _ _));first|rintro _ _ _ _ _ ⟨rfl,rfl⟩ _|rintro _ _ _ _ _ ⟨_,rfl,_⟩ _|rintro _ _ _ _ _ ⟨_,_,_,_,rfl,rfl,_,_⟩ _|intro _ _ _ _ _ _ _))|(refine sx ?_;intro _ _)|((with_reducible refine g_awp ?_);simp only [g0,g1,g2]))
    exact ⟨by omega, by rw [sumI_take _ ht], by omega, ext_auto⟩
  · (repeat' first|refine vs ?_|(refine br ?_ ?_<;>intro _<;>try(exfalso;first|omega|contradiction))|((with_reducible refine g_idx ?_);((first|refine ix ?_|refine ixi ?_|(refine ixg ?_;intro _ _)|(refine ixgi ?_;intro _ _));first|rintro _ _ _ _ _ ⟨rfl,rfl⟩ _|rintro _ _ _ _ _ ⟨_,rfl,_⟩ _|rintro _ _ _ _ _ ⟨_,_,_,_,rfl,rfl,_,_⟩ _|intro _ _ _ _ _ _ _))|(refine sx ?_;intro _ _)|((with_reducible refine g_awp ?_);simp only [g0,g1,g2]))
    refine pi ?_
    rw [show i = l.length by omega, List.take_length]
theorem s_spec_TotalOf {h : AH} {l : List Span} {v : AV} {F : List Nat} (hs : l.length + szs l ≤ 67108864) (r : SlRep h v l F) : RCalls Try.prog n_spec_TotalOf [v] h (.int .i64 (sumI spanSize l)) := by
  refine reader (c_spec_TotalOf _) (by simp only [old]) ?_
  unfold p_spec_TotalOf
  have hsm := r.small
  refine aw_upto l.length (fun i vs h1 => vs = [.int .i64 (sumI spanSize (l.take i)), .int .i64 (i : Int)] ∧ i ≤ l.length ∧ Ext h h1) ⟨rfl, Nat.zero_le _, ext_auto⟩ ?_
  rintro i vs h1 _ ⟨rfl, hi, e1⟩
  simp only [g0, g1]
  refine vs ?_
  refine br (fun hlt => ?_) (fun hge => ?_)
  · obtain ⟨x, hx, -, ht⟩ := drop_step (show i < l.length by omega)
    have h2 := spanSize_b x
    have h3 := sumI_b spanSize_b (l.take i)
    have h4 := szs_take_le l i
    have h5 := szs_mem (List.mem_of_getElem? hx)
    rw [List.length_take] at h3
    (repeat' first|refine vs ?_|(refine br ?_ ?_<;>intro _<;>try(exfalso;first|omega|contradiction))|((with_reducible refine g_callf n_spec_SizeOf ?_);refine aw_rcall (s_spec_SizeOf (by omega) slr_auto) ?_)|((with_reducible refine g_idx ?_);((first|refine ix ?_|refine ixi ?_|(refine ixg ?_;intro _ _)|(refine ixgi ?_;intro _ _));first|rintro _ _ _ _ _ ⟨rfl,rfl⟩ _|rintro _ _ _ _ _ ⟨_,rfl,_⟩ _|rintro _ _ _ _ _ ⟨_,_,_,_,rfl,rfl,_,_⟩ _|intro _ _ _ _ _ _ _))|(refine sx ?_;intro _ _)|((with_reducible refine g_awp ?_);simp only [g0,g1,g2]))
    exact ⟨by omega, by rw [sumI_take _ ht], by omega, ext_auto⟩
  · (repeat' first|refine vs ?_|(refine br ?_ ?_<;>intro _<;>try(exfalso;first|omega|contradiction))|((with_reducible refine g_idx ?_);((first|refine ix ?_|refine ixi ?_|(refine ixg ?_;intro _ _)|(refine ixgi ?_;intro _ _));first|rintro _ _ _ _ _ ⟨rfl,rfl⟩ _|rintro _ _ _ _ _ ⟨_,rfl,_⟩ _|rintro _ _ _ _ _ ⟨_,_,_,_,rfl,rfl,_,_⟩ _|intro _ _ _ _ _ _ _))|(refine sx ?_;intro _ _)|((with_reducible refine g_awp ?_);simp only [g0,g1,g2]))
    refine pi ?_
    rw [show i = l.length by omega, List.take_length]
end Go.Proofs.Ytpcgbddmdipfbaa
