
/- Things that are the same. -/
import Derived.Test.YtienckhjfcplcaaW3
import Derived.Test.YtienckhjfcplcaaAb37
set_option linter.unusedSimpArgs false
set_option linter.unusedVariables false
namespace Go.Proofs.Ytienckhjfcplcaa
open Go Go.Ab
section
/- impl.SameSpan -/
def p_impl_SameSpan (x0 x1 : AV) : Prog := .op (.box x0) fun v => .op (.box x1) fun v_1 => .op (.fad 0 v) fun v_2 => .op (.ld1 v_2) fun v_3 => .op (.fad 0 v_1) fun v_4 => .op (.ld1 v_4) fun v_5 => .op (.bin 0 .eql v_3 v_5) fun v_6 => .gop v_6 true (.fad 1 v) fun v_7 => .gop v_6 true (.ld1 v_7) fun v_8 => .gop v_6 true (.fad 1 v_1) fun v_9 => .gop v_6 true (.ld1 v_9) fun v_10 => .gop v_6 true (.bin 0 .eql v_8 v_10) fun v_11 => .op (.pick v_6 v_11 (AV.bool false)) fun v_12 => .gop v_12 true (.fad 2 v) fun v_13 => .gop v_12 true (.ld1 v_13) fun v_14 => .gop v_12 true (.fad 2 v_1) fun v_15 => .gop v_12 true (.ld1 v_15) fun v_16 => .gop v_12 true (.bin 0 .eql v_14 v_16) fun v_17 => .op (.pick v_12 v_17 (AV.bool false)) fun v_18 => .gop v_18 true (.fad 3 v) fun v_19 => .gop v_18 true (.ld1 v_19) fun v_20 => .gop v_18 true (.fad 3 v_1) fun v_21 => .gop v_18 true (.ld1 v_21) fun v_22 => .gop v_18 true (.bin 0 .eql v_20 v_22) fun v_23 => .op (.pick v_18 v_23 (AV.bool false)) fun v_24 => .gop v_24 true (.fad 4 v) fun v_25 => .gop v_24 true (.ld1 v_25) fun v_26 => .gop v_24 true (.fad 4 v_1) fun v_27 => .gop v_24 true (.ld1 v_27) fun v_28 => .gop v_24 true (.bin 2 .eql v_26 v_28) fun v_29 => .op (.pick v_24 v_29 (AV.bool false)) fun v_30 => .gop v_30 true (.fad 5 v) fun v => .gop v_30 true (.ld1 v) fun v => .gop v_30 true (.fad 5 v_1) fun v_31 => .gop v_30 true (.ld1 v_31) fun v_32 => .gop v_30 true (.call n_slices_Equal_Attr [v, v_32]) fun v => .op (.pick v_30 v (AV.bool false)) fun v => .fin [.val v]
theorem c_impl_SameSpan (x0 x1 : AV) {h : AH} {R : AV → AH → Prop} (g : (p_impl_SameSpan x0 x1).awp Try.prog h fun t vs h' => t = 1 ∧ ∃ v, vs = [v] ∧ R v h') : ACalls Try.prog n_impl_SameSpan [x0, x1] h R :=
  acalls_of follows Try.func105 (by kernel_rfl) (by kernel_rfl) [] (fun _ => []) (show trF Try.prog Try.f105 _ _ [x0, x1] = p_impl_SameSpan x0 x1 by kernel_rfl) g
/- spec.SameSpan -/
def p_spec_SameSpan (x0 x1 : AV) : Prog := .op (.box x0) fun v => .op (.box x1) fun v_1 => .op (.fad 0 v) fun v_2 => .op (.ld1 v_2) fun v_3 => .op (.fad 0 v_1) fun v_4 => .op (.ld1 v_4) fun v_5 => .op (.bin 0 .neq v_3 v_5) fun v_6 => .gop v_6 false (.fad 1 v) fun v_7 => .gop v_6 false (.ld1 v_7) fun v_8 => .gop v_6 false (.fad 1 v_1) fun v_9 => .gop v_6 false (.ld1 v_9) fun v_10 => .gop v_6 false (.bin 0 .neq v_8 v_10) fun v_11 => .op (.pick v_6 (AV.bool true) v_11) fun v_12 => .gop v_12 false (.fad 2 v) fun v_13 => .gop v_12 false (.ld1 v_13) fun v_14 => .gop v_12 false (.fad 2 v_1) fun v_15 => .gop v_12 false (.ld1 v_15) fun v_16 => .gop v_12 false (.bin 0 .neq v_14 v_16) fun v_17 => .op (.pick v_12 (AV.bool true) v_17) fun v_18 => .gop v_18 false (.fad 3 v) fun v_19 => .gop v_18 false (.ld1 v_19) fun v_20 => .gop v_18 false (.fad 3 v_1) fun v_21 => .gop v_18 false (.ld1 v_21) fun v_22 => .gop v_18 false (.bin 0 .neq v_20 v_22) fun v_23 => .op (.pick v_18 (AV.bool true) v_23) fun v_24 => .gop v_24 false (.fad 4 v) fun v_25 => .gop v_24 false (.ld1 v_25) fun v_26 => .gop v_24 false (.fad 4 v_1) fun v_27 => .gop v_24 false (.ld1 v_27) fun v_28 => .gop v_24 false (.bin 2 .neq v_26 v_28) fun v_29 => .op (.pick v_24 (AV.bool true) v_29) fun v_30 => .gop v_30 false (.fad 5 v) fun v_31 => .gop v_30 false (.ld1 v_31) fun v_32 => .gop v_30 false (.len 0 v_32) fun v_33 => .gop v_30 false (.fad 5 v_1) fun v_34 => .gop v_30 false (.ld1 v_34) fun v_35 => .gop v_30 false (.len 0 v_35) fun v_36 => .gop v_30 false (.bin 0 .neq v_33 v_36) fun v_37 => .op (.pick v_30 (AV.bool true) v_37) fun v_38 => .ite v_38 (.fin [.val (AV.bool false)]) (.loop [AV.int .i64 0] (fun vs => .op (.fad 5 v) fun v_39 => .op (.ld1 v_39) fun v_40 => .op (.len 0 v_40) fun v_41 => .op (.bin 0 .lss (g vs 0) v_41) fun v_42 => .ite v_42 (.op (.fad 5 v) fun v => .op (.ld1 v) fun v => .op (.idx 4 v (g vs 0)) fun v => .op (.ldn 4 v) fun v => .op (.fad 5 v_1) fun v_43 => .op (.ld1 v_43) fun v_44 => .op (.idx 4 v_44 (g vs 0)) fun v_45 => .op (.ldn 4 v_45) fun v_46 => .op (.eqs [1, 2, 0, 1] true v v_46) fun v => .ite v (.fin [.val (AV.bool false)]) (.op (.bin 0 .add (g vs 0) (AV.int .i64 1)) fun v => .leaf 0 [v])) (.leaf 2 [g vs 0])) fun t vs => tsel t 1 (.leaf 1 vs) (tsel t 2 (.fin [.val (AV.bool true)]) .bad))
theorem c_spec_SameSpan (x0 x1 : AV) {h : AH} {R : AV → AH → Prop} (g : (p_spec_SameSpan x0 x1).awp Try.prog h fun t vs h' => t = 1 ∧ ∃ v, vs = [v] ∧ R v h') : ACalls Try.prog n_spec_SameSpan [x0, x1] h R :=
  acalls_of follows Try.func141 (by kernel_rfl) (by kernel_rfl) [2, 3, 5] (fun r => if r = 6 then [(0, []), (1, []), (2, []), (3, []), (4, []), (5, []), (6, []), (7, []), (8, []), (9, []), (10, [])] else []) (show trF Try.prog Try.f141 _ _ [x0, x1] = p_spec_SameSpan x0 x1 by kernel_rfl) g
/- slices.Equal[[]impl.Attr,impl.Attr] -/
def p_slices_Equal_Attr (x0 x1 : AV) : Prog := .op (.len 0 x0) fun v => .op (.len 0 x1) fun v_1 => .op (.bin 0 .neq v v_1) fun v => .ite v (.fin [.val (AV.bool false)]) (.op (.len 0 x0) fun v => .loop [AV.int .i64 0] (fun vs => .op (.bin 0 .lss (g vs 0) v) fun v => .ite v (.op (.idx 4 x0 (g vs 0)) fun v => .op (.ldn 4 v) fun v => .op (.idx 4 x1 (g vs 0)) fun v_2 => .op (.ldn 4 v_2) fun v_3 => .op (.eqs [1, 2, 0, 1] true v v_3) fun v => .ite v (.fin [.val (AV.bool false)]) (.op (.bin 0 .add (g vs 0) (AV.int .i64 1)) fun v => .leaf 0 [v])) (.leaf 2 [g vs 0])) fun t vs => tsel t 1 (.leaf 1 vs) (tsel t 2 (.fin [.val (AV.bool true)]) .bad))
theorem c_slices_Equal_Attr (x0 x1 : AV) {h : AH} {R : AV → AH → Prop} (g : (p_slices_Equal_Attr x0 x1).awp Try.prog h fun t vs h' => t = 1 ∧ ∃ v, vs = [v] ∧ R v h') : ACalls Try.prog n_slices_Equal_Attr [x0, x1] h R :=
  acalls_of follows Try.func144 (by kernel_rfl) (by kernel_rfl) [0, 1, 12, 13] (fun r => if r = 6 then [(0, []), (1, []), (2, []), (3, []), (4, []), (5, []), (6, []), (7, []), (8, [])] else []) (show trF Try.prog Try.f144 _ _ [x0, x1] = p_slices_Equal_Attr x0 x1 by kernel_rfl) g
end
theorem aeqs_Attr (x y : Attr) : aeqs [1, 2, 0, 1] x.cs y.cs = some (bp (x = y)) := by
  have : aeqs [1, 2, 0, 1] x.cs y.cs = some (decide (x.key = y.key) && ((x.num == y.num) && (decide (x.n = y.n) && (decide (x.text = y.text) && true)))) := rfl
  rw [this]
  congr 1
  refine bp_eq ?_
  cases x; cases y
  simp [Attr.mk.injEq]
section
variable {P : Program} {h : AH} {Q : Nat → List AV → AH → Prop} {k : AV → Prog}
theorem w_eqsA {x y : Attr} (h1 : ¬ x = y → (k (.bool true)).awp P h Q) (h2 : x = y → (k (.bool false)).awp P h Q) : (Prog.op (.eqs [1, 2, 0, 1] true (.agg x.cs) (.agg y.cs)) k).awp P h Q := by
  simp only [Prog.awp, AOp.go, aeqs_Attr, if_true]
  by_cases e : x = y
  · rw [bp_t e]; exact h2 e
  · rw [bp_f e]; exact h1 e
end

theorem s_slices_Equal_Attr {h : AH} {xs ys : List Attr} {v0 v1 : AV} {F G : List Nat} (r : SlRep h v0 xs F) (r' : SlRep h v1 ys G) : RCalls Try.prog n_slices_Equal_Attr [v0, v1] h (.bool (bp (xs = ys))) := by
  refine reader (c_slices_Equal_Attr _ _) (by simp only [old]) ?_
  unfold p_slices_Equal_Attr
  have hsm := r.small
  refine aw_len r (aw_len r' ?_)
  (repeat' first|refine vs ?_|(refine br ?_ ?_<;>intro _<;>try(exfalso;first|omega|contradiction))|((with_reducible refine g_idx ?_);((first|refine ix ?_|refine ixi ?_|(refine ixg ?_;intro _ _)|(refine ixgi ?_;intro _ _));first|rintro _ _ _ _ _ ⟨rfl,rfl⟩ _|rintro _ _ _ _ _ ⟨_,rfl,_⟩ _|rintro _ _ _ _ _ ⟨_,_,_,_,rfl,rfl,_,_⟩ _|intro _ _ _ _ _ _ _))|(refine sx ?_;intro _ _)|((with_reducible refine g_awp ?_);simp only [g0,g1,g2]))
  · exact pf (by intro k; subst k; omega)
  · refine aw_upto xs.length (fun i vs h1 => vs = [.int .i64 (i : Int)] ∧ i ≤ xs.length ∧ h1 = h ∧ EqUp xs ys i) ⟨rfl, Nat.zero_le _, rfl, eu0⟩ ?_
    rintro i vs h1 _ ⟨rfl, hi, rfl, hu⟩
    simp only [g0]
    refine br (fun hlt => ?_) (fun hge => ?_)
    · obtain ⟨x, hx, -, -⟩ := drop_step (show i < xs.length by omega)
      obtain ⟨y, hy, -, -⟩ := drop_step (show i < ys.length by omega)
      refine vs ?_
      refine aw_idx r hx rfl ?_
      rintro b o _ _ a ⟨rfl, rfl⟩ _
      refine vs ?_
      refine aw_idx r' hy rfl ?_
      rintro b' o' _ _ a' ⟨rfl, rfl⟩ _
      refine vs ?_
      refine w_eqsA (fun e => ?_) (fun e => ?_)
      · (repeat' first|refine vs ?_|(refine br ?_ ?_<;>intro _<;>try(exfalso;first|omega|contradiction))|((with_reducible refine g_idx ?_);((first|refine ix ?_|refine ixi ?_|(refine ixg ?_;intro _ _)|(refine ixgi ?_;intro _ _));first|rintro _ _ _ _ _ ⟨rfl,rfl⟩ _|rintro _ _ _ _ _ ⟨_,rfl,_⟩ _|rintro _ _ _ _ _ ⟨_,_,_,_,rfl,rfl,_,_⟩ _|intro _ _ _ _ _ _ _))|(refine sx ?_;intro _ _)|((with_reducible refine g_awp ?_);simp only [g0,g1,g2]))
        exact pf (euNot hx hy e)
      · (repeat' first|refine vs ?_|(refine br ?_ ?_<;>intro _<;>try(exfalso;first|omega|contradiction))|((with_reducible refine g_idx ?_);((first|refine ix ?_|refine ixi ?_|(refine ixg ?_;intro _ _)|(refine ixgi ?_;intro _ _));first|rintro _ _ _ _ _ ⟨rfl,rfl⟩ _|rintro _ _ _ _ _ ⟨_,rfl,_⟩ _|rintro _ _ _ _ _ ⟨_,_,_,_,rfl,rfl,_,_⟩ _|intro _ _ _ _ _ _ _))|(refine sx ?_;intro _ _)|((with_reducible refine g_awp ?_);simp only [g0,g1,g2]))
        exact ⟨by omega, rfl, by omega, rfl, euS hu hx hy e⟩
    · (repeat' first|refine vs ?_|(refine br ?_ ?_<;>intro _<;>try(exfalso;first|omega|contradiction))|((with_reducible refine g_idx ?_);((first|refine ix ?_|refine ixi ?_|(refine ixg ?_;intro _ _)|(refine ixgi ?_;intro _ _));first|rintro _ _ _ _ _ ⟨rfl,rfl⟩ _|rintro _ _ _ _ _ ⟨_,rfl,_⟩ _|rintro _ _ _ _ _ ⟨_,_,_,_,rfl,rfl,_,_⟩ _|intro _ _ _ _ _ _ _))|(refine sx ?_;intro _ _)|((with_reducible refine g_awp ?_);simp only [g0,g1,g2]))
      exact pt (euEnd (by rw [show i = xs.length by omega] at hu; exact hu) (by omega))

theorem s_impl_SameSpan {h : AH} {a b : Span} {v v' : AV} {F F' : List Nat} (r : SlRep h v a.attrs F) (r' : SlRep h v' b.attrs F') : RCalls Try.prog n_impl_SameSpan [.agg (a.cs v), .agg (b.cs v')] h (.bool (bp (a = b))) := by
  refine reader (c_impl_SameSpan _ _) (by simp only [old]) ?_
  unfold p_impl_SameSpan
  (repeat' first|refine vs ?_|(refine br ?_ ?_<;>intro _<;>try(exfalso;first|omega|contradiction))|((with_reducible refine g_callf n_slices_Equal_Attr ?_);(refine aw_rcall_b (s_slices_Equal_Attr slr_auto slr_auto) ?_ ?_ <;> intro hn <;> first | replace hn := bp_true hn | replace hn := bp_false hn))|((with_reducible refine g_idx ?_);((first|refine ix ?_|refine ixi ?_|(refine ixg ?_;intro _ _)|(refine ixgi ?_;intro _ _));first|rintro _ _ _ _ _ ⟨rfl,rfl⟩ _|rintro _ _ _ _ _ ⟨_,rfl,_⟩ _|rintro _ _ _ _ _ ⟨_,_,_,_,rfl,rfl,_,_⟩ _|intro _ _ _ _ _ _ _))|(refine sx ?_;intro _ _)|((with_reducible refine g_awp ?_);simp only [g0,g1,g2]))
  all_goals first
    | (refine pf ?_; rintro rfl; first | contradiction | (simp_all; done))
    | (refine pt ?_; cases a; cases b; simp_all; done)
theorem s_spec_SameSpan {h : AH} {a b : Span} {v v' : AV} {F F' : List Nat} (r : SlRep h v a.attrs F) (r' : SlRep h v' b.attrs F') : RCalls Try.prog n_spec_SameSpan [.agg (a.cs v), .agg (b.cs v')] h (.bool (bp (a = b))) := by
  refine reader (c_spec_SameSpan _ _) (by simp only [old]) ?_
  unfold p_spec_SameSpan
  have hsm := r.small
  (repeat' first|refine vs ?_|(refine br ?_ ?_<;>intro _<;>try(exfalso;first|omega|contradiction))|((with_reducible refine g_idx ?_);((first|refine ix ?_|refine ixi ?_|(refine ixg ?_;intro _ _)|(refine ixgi ?_;intro _ _));first|rintro _ _ _ _ _ ⟨rfl,rfl⟩ _|rintro _ _ _ _ _ ⟨_,rfl,_⟩ _|rintro _ _ _ _ _ ⟨_,_,_,_,rfl,rfl,_,_⟩ _|intro _ _ _ _ _ _ _))|(refine sx ?_;intro _ _)|((with_reducible refine g_awp ?_);simp only [g0,g1,g2]))
  all_goals first
    | (refine pf ?_; rintro rfl; first | contradiction | omega | (simp_all; done))
    | skip
  refine aw_upto a.attrs.length (fun i vs h1 => vs = [.int .i64 (i : Int)] ∧ i ≤ a.attrs.length ∧ Ext ((h.push ⟨a.cs v, 0, 0⟩).push ⟨b.cs v', 0, 0⟩) h1 ∧ EqUp a.attrs b.attrs i) ⟨rfl, Nat.zero_le _, ext_auto, eu0⟩ ?_
  rintro i vs h1 _ ⟨rfl, hi, e1, hu⟩
  simp only [g0]
  refine vs ?_
  refine br (fun hlt => ?_) (fun hge => ?_)
  · obtain ⟨x, hx, -, -⟩ := drop_step (show i < a.attrs.length by omega)
    obtain ⟨y, hy, -, -⟩ := drop_step (show i < b.attrs.length by omega)
    (repeat' first|refine vs ?_|(refine br ?_ ?_<;>intro _<;>try(exfalso;first|omega|contradiction))|((with_reducible refine g_idx ?_);((first|refine ix ?_|refine ixi ?_|(refine ixg ?_;intro _ _)|(refine ixgi ?_;intro _ _));first|rintro _ _ _ _ _ ⟨rfl,rfl⟩ _|rintro _ _ _ _ _ ⟨_,rfl,_⟩ _|rintro _ _ _ _ _ ⟨_,_,_,_,rfl,rfl,_,_⟩ _|intro _ _ _ _ _ _ _))|(refine sx ?_;intro _ _)|((with_reducible refine g_awp ?_);simp only [g0,g1,g2]))
    refine w_eqsA (fun e => ?_) (fun e => ?_)
    · (repeat' first|refine vs ?_|(refine br ?_ ?_<;>intro _<;>try(exfalso;first|omega|contradiction))|((with_reducible refine g_idx ?_);((first|refine ix ?_|refine ixi ?_|(refine ixg ?_;intro _ _)|(refine ixgi ?_;intro _ _));first|rintro _ _ _ _ _ ⟨rfl,rfl⟩ _|rintro _ _ _ _ _ ⟨_,rfl,_⟩ _|rintro _ _ _ _ _ ⟨_,_,_,_,rfl,rfl,_,_⟩ _|intro _ _ _ _ _ _ _))|(refine sx ?_;intro _ _)|((with_reducible refine g_awp ?_);simp only [g0,g1,g2]))
      refine pf ?_
      rintro rfl
      exact euNot hx hy e rfl
    · (repeat' first|refine vs ?_|(refine br ?_ ?_<;>intro _<;>try(exfalso;first|omega|contradiction))|((with_reducible refine g_idx ?_);((first|refine ix ?_|refine ixi ?_|(refine ixg ?_;intro _ _)|(refine ixgi ?_;intro _ _));first|rintro _ _ _ _ _ ⟨rfl,rfl⟩ _|rintro _ _ _ _ _ ⟨_,rfl,_⟩ _|rintro _ _ _ _ _ ⟨_,_,_,_,rfl,rfl,_,_⟩ _|intro _ _ _ _ _ _ _))|(refine sx ?_;intro _ _)|((with_reducible refine g_awp ?_);simp only [g0,g1,g2]))
      exact ⟨by omega, rfl, by omega, ext_auto, euS hu hx hy e⟩
  · (repeat' first|refine vs ?_|(refine br ?_ ?_<;>intro _<;>try(exfalso;first|omega|contradiction))|((with_reducible refine g_idx ?_);((first|refine ix ?_|refine ixi ?_|(refine ixg ?_;intro _ _)|(refine ixgi ?_;intro _ _));first|rintro _ _ _ _ _ ⟨rfl,rfl⟩ _|rintro _ _ _ _ _ ⟨_,rfl,_⟩ _|rintro _ _ _ _ _ ⟨_,_,_,_,rfl,rfl,_,_⟩ _|intro _ _ _ _ _ _ _))|(refine sx ?_;intro _ _)|((with_reducible refine g_awp ?_);simp only [g0,g1,g2]))
    have e : a.attrs = b.attrs := euEnd (by rw [show i = a.attrs.length by omega] at hu; exact hu) (by omega)
    refine pt ?_
    cases a; cases b; simp_all
end Go.Proofs.Ytienckhjfcplcaa
