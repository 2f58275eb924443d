/- Things that are the same. -/
import Derived.Test.YtpcgbddmdipfbaaW3
import Derived.Test.YtpcgbddmdipfbaaK4
set_option linter.unusedSimpArgs false
set_option linter.unusedVariables false
namespace Go.Proofs.Ytpcgbddmdipfbaa
open Go Go.Ab
section
/- impl.SameSpan -/
def p_impl_SameSpan (x0 x1 : AV) : Prog := .op (.box x0) fun v1 => .op (.box x1) fun v2 => .op (.fad 0 v1) fun v3 => .op (.ld1 v3) fun v4 => .op (.fad 0 v2) fun v5 => .op (.ld1 v5) fun v6 => .op (.bin 0 .eql v4 v6) fun v7 => .gop v7 true (.fad 1 v1) fun v8 => .gop v7 true (.ld1 v8) fun v9 => .gop v7 true (.fad 1 v2) fun v10 => .gop v7 true (.ld1 v10) fun v11 => .gop v7 true (.bin 0 .eql v9 v11) fun v12 => .op (.pick v7 v12 (AV.bool false)) fun v13 => .gop v13 true (.fad 2 v1) fun v14 => .gop v13 true (.ld1 v14) fun v15 => .gop v13 true (.fad 2 v2) fun v16 => .gop v13 true (.ld1 v16) fun v17 => .gop v13 true (.bin 0 .eql v15 v17) fun v18 => .op (.pick v13 v18 (AV.bool false)) fun v19 => .gop v19 true (.fad 3 v1) fun v20 => .gop v19 true (.ld1 v20) fun v21 => .gop v19 true (.fad 3 v2) fun v22 => .gop v19 true (.ld1 v22) fun v23 => .gop v19 true (.bin 0 .eql v21 v23) fun v24 => .op (.pick v19 v24 (AV.bool false)) fun v25 => .gop v25 true (.fad 4 v1) fun v26 => .gop v25 true (.ld1 v26) fun v27 => .gop v25 true (.fad 4 v2) fun v28 => .gop v25 true (.ld1 v28) fun v29 => .gop v25 true (.bin 2 .eql v27 v29) fun v30 => .op (.pick v25 v30 (AV.bool false)) fun v31 => .gop v31 true (.fad 5 v1) fun v32 => .gop v31 true (.ld1 v32) fun v33 => .gop v31 true (.fad 5 v2) fun v34 => .gop v31 true (.ld1 v34) fun v35 => .gop v31 true (.call n_slices_Equal_Attr [v33, v35]) fun v36 => .op (.pick v31 v36 (AV.bool false)) fun v37 => .fin [.val v37]
theorem c_impl_SameSpan (x0 x1 : AV) : CC Try.prog n_impl_SameSpan [x0, x1] (p_impl_SameSpan x0 x1) := cc Try.func99 [] (fun _ => []) (by kernel_rfl)
/- spec.SameSpan -/
def p_spec_SameSpan (x0 x1 : AV) : Prog := .op (.box x0) fun v1 => .op (.box x1) fun v2 => .op (.fad 0 v1) fun v3 => .op (.ld1 v3) fun v4 => .op (.fad 0 v2) fun v5 => .op (.ld1 v5) fun v6 => .op (.bin 0 .neq v4 v6) fun v7 => .gop v7 false (.fad 1 v1) fun v8 => .gop v7 false (.ld1 v8) fun v9 => .gop v7 false (.fad 1 v2) fun v10 => .gop v7 false (.ld1 v10) fun v11 => .gop v7 false (.bin 0 .neq v9 v11) fun v12 => .op (.pick v7 (AV.bool true) v12) fun v13 => .gop v13 false (.fad 2 v1) fun v14 => .gop v13 false (.ld1 v14) fun v15 => .gop v13 false (.fad 2 v2) fun v16 => .gop v13 false (.ld1 v16) fun v17 => .gop v13 false (.bin 0 .neq v15 v17) fun v18 => .op (.pick v13 (AV.bool true) v18) fun v19 => .gop v19 false (.fad 3 v1) fun v20 => .gop v19 false (.ld1 v20) fun v21 => .gop v19 false (.fad 3 v2) fun v22 => .gop v19 false (.ld1 v22) fun v23 => .gop v19 false (.bin 0 .neq v21 v23) fun v24 => .op (.pick v19 (AV.bool true) v24) fun v25 => .gop v25 false (.fad 4 v1) fun v26 => .gop v25 false (.ld1 v26) fun v27 => .gop v25 false (.fad 4 v2) fun v28 => .gop v25 false (.ld1 v28) fun v29 => .gop v25 false (.bin 2 .neq v27 v29) fun v30 => .op (.pick v25 (AV.bool true) v30) fun v31 => .gop v31 false (.fad 5 v1) fun v32 => .gop v31 false (.ld1 v32) fun v33 => .gop v31 false (.len 0 v33) fun v34 => .gop v31 false (.fad 5 v2) fun v35 => .gop v31 false (.ld1 v35) fun v36 => .gop v31 false (.len 0 v36) fun v37 => .gop v31 false (.bin 0 .neq v34 v37) fun v38 => .op (.pick v31 (AV.bool true) v38) fun v39 => .ite v39 (.fin [.val (AV.bool false)]) (.loop [AV.int .i64 0] (fun vs40 => .op (.fad 5 v1) fun v42 => .op (.ld1 v42) fun v43 => .op (.len 0 v43) fun v44 => .op (.bin 0 .lss (g vs40 0) v44) fun v45 => .ite v45 (.op (.fad 5 v1) fun v46 => .op (.ld1 v46) fun v47 => .op (.idx 4 v47 (g vs40 0)) fun v48 => .op (.ldn 4 v48) fun v49 => .op (.fad 5 v2) fun v50 => .op (.ld1 v50) fun v51 => .op (.idx 4 v51 (g vs40 0)) fun v52 => .op (.ldn 4 v52) fun v53 => .op (.eqs [1, 2, 0, 1] true v49 v53) fun v54 => .ite v54 (.fin [.val (AV.bool false)]) (.op (.bin 0 .add (g vs40 0) (AV.int .i64 1)) fun v55 => .leaf 0 [v55])) (.leaf 2 [g vs40 0])) fun t41 vs40 => tsel t41 1 (.leaf 1 vs40) (tsel t41 2 (.fin [.val (AV.bool true)]) .bad))
theorem c_spec_SameSpan (x0 x1 : AV) : CC Try.prog n_spec_SameSpan [x0, x1] (p_spec_SameSpan x0 x1) := cc Try.func156 [2, 3, 5] (fun r => if r = 6 then [(0, []), (1, []), (2, []), (3, []), (4, []), (5, []), (6, []), (7, []), (8, []), (9, []), (10, [])] else []) (by kernel_rfl)
/- slices.Equal[[]impl.Attr,impl.Attr] -/
def p_slices_Equal_Attr (x0 x1 : AV) : Prog := .op (.len 0 x0) fun v1 => .op (.len 0 x1) fun v2 => .op (.bin 0 .neq v1 v2) fun v3 => .ite v3 (.fin [.val (AV.bool false)]) (.op (.len 0 x0) fun v4 => .loop [AV.int .i64 0] (fun vs5 => .op (.bin 0 .lss (g vs5 0) v4) fun v7 => .ite v7 (.op (.idx 4 x0 (g vs5 0)) fun v8 => .op (.ldn 4 v8) fun v9 => .op (.idx 4 x1 (g vs5 0)) fun v10 => .op (.ldn 4 v10) fun v11 => .op (.eqs [1, 2, 0, 1] true v9 v11) fun v12 => .ite v12 (.fin [.val (AV.bool false)]) (.op (.bin 0 .add (g vs5 0) (AV.int .i64 1)) fun v13 => .leaf 0 [v13])) (.leaf 2 [g vs5 0])) fun t6 vs5 => tsel t6 1 (.leaf 1 vs5) (tsel t6 2 (.fin [.val (AV.bool true)]) .bad))
theorem c_slices_Equal_Attr (x0 x1 : AV) : CC Try.prog n_slices_Equal_Attr [x0, x1] (p_slices_Equal_Attr x0 x1) := cc Try.func174 [0, 1, 12, 13] (fun r => if r = 6 then [(0, []), (1, []), (2, []), (3, []), (4, []), (5, []), (6, []), (7, []), (8, [])] else []) (by kernel_rfl)
end
theorem aeqs_Attr (x y : Attr) : aeqs [1, 2, 0, 1] x.cs y.cs = some (bp (x = y)) := by
  have : aeqs [1, 2, 0, 1] x.cs y.cs = some (decide (x.key = y.key) && ((x.num == y.num) && (decide (x.n = y.n) && (decide (x.text = y.text) && true)))) := rfl
  rw [this]
  congr 1
  refine bp_eq ?_
  cases x; cases y
  simp [Attr.mk.injEq]
section
variable {P : Program} {h : AH} {Q : Nat → List AV → AH → Prop} {k : AV → Prog}
theorem w_eqsA {x y : Attr} (h1 : ¬ x = y → (k (.bool true)).awp P h Q) (h2 : x = y → (k (.bool false)).awp P h Q) : (Prog.op (.eqs [1, 2, 0, 1] true (.agg x.cs) (.agg y.cs)) k).awp P h Q := by
  simp only [Prog.awp, AOp.go, aeqs_Attr, if_true]
  by_cases e : x = y
  · rw [bp_t e]; exact h2 e
  · rw [bp_f e]; exact h1 e
end

theorem s_slices_Equal_Attr {h : AH} {xs ys : List Attr} {v0 v1 : AV} {F G : List Nat} (r : SlRep h v0 xs F) (r' : SlRep h v1 ys G) : RCalls Try.prog n_slices_Equal_Attr [v0, v1] h (.bool (bp (xs = ys))) := by
  refine reader (c_slices_Equal_Attr _ _) (by simp only [old]) ?_
  unfold p_slices_Equal_Attr
  have hsm := r.small
  refine aw_len r (aw_len r' ?_)
  (repeat' first|refine vs ?_|(refine br ?_ ?_<;>intro _<;>try(exfalso;first|omega|contradiction))|((with_reducible refine g_idx ?_);((first|refine ix ?_|refine ixi ?_|(refine ixg ?_;intro _ _)|(refine ixgi ?_;intro _ _));first|rintro _ _ _ _ _ ⟨rfl,rfl⟩ _|rintro _ _ _ _ _ ⟨_,rfl,_⟩ _|rintro _ _ _ _ _ ⟨_,_,_,_,rfl,rfl,_,_⟩ _|intro _ _ _ _ _ _ _))|(refine sx ?_;intro _ _)|((with_reducible refine g_awp ?_);simp only [g0,g1,g2]))
  · exact pf (by intro k; subst k; omega)
  · refine aw_upto xs.length (fun i vs h1 => vs = [.int .i64 (i : Int)] ∧ i ≤ xs.length ∧ h1 = h ∧ EqUp xs ys i) ⟨rfl, Nat.zero_le _, rfl, eu0⟩ ?_
    rintro i vs h1 _ ⟨rfl, hi, rfl, hu⟩
    simp only [g0]
    refine br (fun hlt => ?_) (fun hge => ?_)
    · obtain ⟨x, hx, -, -⟩ := drop_step (show i < xs.length by omega)
      obtain ⟨y, hy, -, -⟩ := drop_step (show i < ys.length by omega)
      refine vs ?_
      refine aw_idx r hx rfl ?_
      rintro b o _ _ a ⟨rfl, rfl⟩ _
      refine vs ?_
      refine aw_idx r' hy rfl ?_
      rintro b' o' _ _ a' ⟨rfl, rfl⟩ _
      refine vs ?_
      refine w_eqsA (fun e => ?_) (fun e => ?_)
      · (repeat' first|refine vs ?_|(refine br ?_ ?_<;>intro _<;>try(exfalso;first|omega|contradiction))|((with_reducible refine g_idx ?_);((first|refine ix ?_|refine ixi ?_|(refine ixg ?_;intro _ _)|(refine ixgi ?_;intro _ _));first|rintro _ _ _ _ _ ⟨rfl,rfl⟩ _|rintro _ _ _ _ _ ⟨_,rfl,_⟩ _|rintro _ _ _ _ _ ⟨_,_,_,_,rfl,rfl,_,_⟩ _|intro _ _ _ _ _ _ _))|(refine sx ?_;intro _ _)|((with_reducible refine g_awp ?_);simp only [g0,g1,g2]))
        exact pf (euNot hx hy e)
      · (repeat' first|refine vs ?_|(refine br ?_ ?_<;>intro _<;>try(exfalso;first|omega|contradiction))|((with_reducible refine g_idx ?_);((first|refine ix ?_|refine ixi ?_|(refine ixg ?_;intro _ _)|(refine ixgi ?_;intro _ _));first|rintro _ _ _ _ _ ⟨rfl,rfl⟩ _|rintro _ _ _ _ _ ⟨_,rfl,_⟩ _|rintro _ _ _ _ _ ⟨_,_,_,_,rfl,rfl,_,_⟩ _|intro _ _ _ _ _ _ _))|(refine sx ?_;intro _ _)|((with_reducible refine g_awp ?_);simp only [g0,g1,g2]))
        exact ⟨by omega, rfl, by omega, rfl, euS hu hx hy e⟩
    · (repeat' first|refine vs ?_|(refine br ?_ ?_<;>intro _<;>try(exfalso;first|omega|contradiction))|((with_reducible refine g_idx ?_);((first|refine ix ?_|refine ixi ?_|(refine ixg ?_;intro _ _)|(refine ixgi ?_;intro _ _));first|rintro _ _ _ _ _ ⟨rfl,rfl⟩ _|rintro _ _ _ _ _ ⟨_,rfl,_⟩ _|rintro _ _ _ _ _ ⟨_,_,_,_,rfl,rfl,_,_⟩ _|intro _ _ _ _ _ _ _))|(refine sx ?_;intro _ _)|((with_reducible refine g_awp ?_);simp only [g0,g1,g2]))
      exact pt (euEnd (by rw [show i = xs.length by omega] at hu; exact hu) (by omega))

theorem s_impl_SameSpan {h : AH} {a b : Span} {v v' : AV} {F F' : List Nat} (r : SlRep h v a.attrs F) (r' : SlRep h v' b.attrs F') : RCalls Try.prog n_impl_SameSpan [.agg (a.cs v), .agg (b.cs v')] h (.bool (bp (a = b))) := by
  refine reader (c_impl_SameSpan _ _) (by simp only [old]) ?_
  unfold p_impl_SameSpan
  (repeat' first|refine vs ?_|(refine br ?_ ?_<;>intro _<;>try(exfalso;first|omega|contradiction))|((with_reducible refine g_callf n_slices_Equal_Attr ?_);(refine aw_rcall_b (s_slices_Equal_Attr slr_auto slr_auto) ?_ ?_ <;> intro hn <;> first | replace hn := bp_true hn | replace hn := bp_false hn))|((with_reducible refine g_idx ?_);((first|refine ix ?_|refine ixi ?_|(refine ixg ?_;intro _ _)|(refine ixgi ?_;intro _ _));first|rintro _ _ _ _ _ ⟨rfl,rfl⟩ _|rintro _ _ _ _ _ ⟨_,rfl,_⟩ _|rintro _ _ _ _ _ ⟨_,_,_,_,rfl,rfl,_,_⟩ _|intro _ _ _ _ _ _ _))|(refine sx ?_;intro _ _)|((with_reducible refine g_awp ?_);simp only [g0,g1,g2]))
  all_goals first
    | (refine pf ?_; rintro rfl; first | contradiction | (simp_all; done))
    | (refine pt ?_; cases a; cases b; simp_all; done)
theorem s_spec_SameSpan {h : AH} {a b : Span} {v v' : AV} {F F' : List Nat} (r : SlRep h v a.attrs F) (r' : SlRep h v' b.attrs F') : RCalls Try.prog n_spec_SameSpan [.agg (a.cs v), .agg (b.cs v')] h (.bool (bp (a = b))) := by
  refine reader (c_spec_SameSpan _ _) (by simp only [old]) ?_
  unfold p_spec_SameSpan
  have hsm := r.small
  (repeat' first|refine vs ?_|(refine br ?_ ?_<;>intro _<;>try(exfalso;first|omega|contradiction))|((with_reducible refine g_idx ?_);((first|refine ix ?_|refine ixi ?_|(refine ixg ?_;intro _ _)|(refine ixgi ?_;intro _ _));first|rintro _ _ _ _ _ ⟨rfl,rfl⟩ _|rintro _ _ _ _ _ ⟨_,rfl,_⟩ _|rintro _ _ _ _ _ ⟨_,_,_,_,rfl,rfl,_,_⟩ _|intro _ _ _ _ _ _ _))|(refine sx ?_;intro _ _)|((with_reducible refine g_awp ?_);simp only [g0,g1,g2]))
  all_goals first
    | (refine pf ?_; rintro rfl; first | contradiction | omega | (simp_all; done))
    | skip
  refine aw_upto a.attrs.length (fun i vs h1 => vs = [.int .i64 (i : Int)] ∧ i ≤ a.attrs.length ∧ Ext ((h.push ⟨a.cs v, 0, 0⟩).push ⟨b.cs v', 0, 0⟩) h1 ∧ EqUp a.attrs b.attrs i) ⟨rfl, Nat.zero_le _, ext_auto, eu0⟩ ?_
  rintro i vs h1 _ ⟨rfl, hi, e1, hu⟩
  simp only [g0]
  refine vs ?_
  refine br (fun hlt => ?_) (fun hge => ?_)
  · obtain ⟨x, hx, -, -⟩ := drop_step (show i < a.attrs.length by omega)
    obtain ⟨y, hy, -, -⟩ := drop_step (show i < b.attrs.length by omega)
    (repeat' first|refine vs ?_|(refine br ?_ ?_<;>intro _<;>try(exfalso;first|omega|contradiction))|((with_reducible refine g_idx ?_);((first|refine ix ?_|refine ixi ?_|(refine ixg ?_;intro _ _)|(refine ixgi ?_;intro _ _));first|rintro _ _ _ _ _ ⟨rfl,rfl⟩ _|rintro _ _ _ _ _ ⟨_,rfl,_⟩ _|rintro _ _ _ _ _ ⟨_,_,_,_,rfl,rfl,_,_⟩ _|intro _ _ _ _ _ _ _))|(refine sx ?_;intro _ _)|((with_reducible refine g_awp ?_);simp only [g0,g1,g2]))
    refine w_eqsA (fun e => ?_) (fun e => ?_)
    · (repeat' first|refine vs ?_|(refine br ?_ ?_<;>intro _<;>try(exfalso;first|omega|contradiction))|((with_reducible refine g_idx ?_);((first|refine ix ?_|refine ixi ?_|(refine ixg ?_;intro _ _)|(refine ixgi ?_;intro _ _));first|rintro _ _ _ _ _ ⟨rfl,rfl⟩ _|rintro _ _ _ _ _ ⟨_,rfl,_⟩ _|rintro _ _ _ _ _ ⟨_,_,_,_,rfl,rfl,_,_⟩ _|intro _ _ _ _ _ _ _))|(refine sx ?_;intro _ _)|((with_reducible refine g_awp ?_);simp only [g0,g1,g2]))
      refine pf ?_
      rintro rfl
      exact euNot hx hy e rfl
    · (repeat' first|refine vs ?_|(refine br ?_ ?_<;>intro _<;>try(exfalso;first|omega|contradiction))|((with_reducible refine g_idx ?_);((first|refine ix ?_|refine ixi ?_|(refine ixg ?_;intro _ _)|(refine ixgi ?_;intro _ _));first|rintro _ _ _ _ _ ⟨rfl,rfl⟩ _|rintro _ _ _ _ _ ⟨_,rfl,_⟩ _|rintro _ _ _ _ _ ⟨_,_,_,_,rfl,rfl,_,_⟩ _|intro _ _ _ _ _ _ _))|(refine sx ?_;intro _ _)|((with_reducible refine g_awp ?_);simp only [g0,g1,g2]))
      exact ⟨by omega, rfl, by omega, ext_auto, euS hu hx hy e⟩
  · (repeat' first|refine vs ?_|(refine br ?_ ?_<;>intro _<;>try(exfalso;first|omega|contradiction))|((with_reducible refine g_idx ?_);((first|refine ix ?_|refine ixi ?_|(refine ixg ?_;intro _ _)|(refine ixgi ?_;intro _ _));first|rintro _ _ _ _ _ ⟨rfl,rfl⟩ _|rintro _ _ _ _ _ ⟨_,rfl,_⟩ _|rintro _ _ _ _ _ ⟨_,_,_,_,rfl,rfl,_,_⟩ _|intro _ _ _ _ _ _ _))|(refine sx ?_;intro _ _)|((with_reducible refine g_awp ?_);simp only [g0,g1,g2]))
    have e : a.attrs = b.attrs := euEnd (by rw [show i = a.attrs.length by omega] at hu; exact hu) (by omega)
    refine pt ?_
    cases a; cases b; simp_all
end Go.Proofs.Ytpcgbddmdipfbaa
