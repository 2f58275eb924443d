/- Rules and set-ups that are the same. -/
import Derived.Test.YtjjaefhldldpkaaLPol
set_option linter.unusedSimpArgs false
set_option linter.unusedVariables false
set_option maxHeartbeats 1000000
namespace Go.Proofs.Ytjjaefhldldpkaa
open Go Go.Ab
section
/- impl.SamePol -/
def p_impl_SamePol (x0 x1 : AV) : Prog := .op (.box x0) fun v => .op (.box x1) fun v_1 => .op (.fad 0 v) fun v_2 => .op (.ld1 v_2) fun v_3 => .op (.fad 0 v_1) fun v_4 => .op (.ld1 v_4) fun v_5 => .op (.bin 0 .eql v_3 v_5) fun v_6 => .gop v_6 true (.fad 1 v) fun v_7 => .gop v_6 true (.ld1 v_7) fun v_8 => .gop v_6 true (.fad 1 v_1) fun v_9 => .gop v_6 true (.ld1 v_9) fun v_10 => .gop v_6 true (.bin 0 .eql v_8 v_10) fun v_11 => .op (.pick v_6 v_11 (AV.bool false)) fun v_12 => .gop v_12 true (.fad 2 v) fun v_13 => .gop v_12 true (.ld1 v_13) fun v_14 => .gop v_12 true (.fad 2 v_1) fun v_15 => .gop v_12 true (.ld1 v_15) fun v_16 => .gop v_12 true (.bin 1 .eql v_14 v_16) fun v_17 => .op (.pick v_12 v_17 (AV.bool false)) fun v_18 => .gop v_18 true (.fad 3 v) fun v_19 => .gop v_18 true (.ld1 v_19) fun v_20 => .gop v_18 true (.fad 3 v_1) fun v_21 => .gop v_18 true (.ld1 v_21) fun v_22 => .gop v_18 true (.bin 1 .eql v_20 v_22) fun v_23 => .op (.pick v_18 v_23 (AV.bool false)) fun v_24 => .gop v_24 true (.fad 4 v) fun v => .gop v_24 true (.ld1 v) fun v => .gop v_24 true (.fad 4 v_1) fun v_25 => .gop v_24 true (.ld1 v_25) fun v_26 => .gop v_24 true (.call n_slices_EqualFunc_Pol [v, v_26, AV.fn n_impl_SamePol []]) fun v => .op (.pick v_24 v (AV.bool false)) fun v => .fin [.val v]
theorem c_impl_SamePol (x0 x1 : AV) {h : AH} {R : AV → AH → Prop} (g : (p_impl_SamePol x0 x1).awp Try.prog h fun t vs h' => t = 1 ∧ ∃ v, vs = [v] ∧ R v h') : ACalls Try.prog n_impl_SamePol [x0, x1] h R :=
  acalls_of follows Try.func76 (by kernel_rfl) (by kernel_rfl) [] (fun _ => []) (show trF Try.prog Try.f76 _ _ [x0, x1] = p_impl_SamePol x0 x1 by kernel_rfl) g
/- spec.SamePol -/
def p_spec_SamePol (x0 x1 : AV) : Prog := .op (.box x0) fun v => .op (.box x1) fun v_1 => .op (.fad 0 v) fun v_2 => .op (.ld1 v_2) fun v_3 => .op (.fad 0 v_1) fun v_4 => .op (.ld1 v_4) fun v_5 => .op (.bin 0 .neq v_3 v_5) fun v_6 => .gop v_6 false (.fad 1 v) fun v_7 => .gop v_6 false (.ld1 v_7) fun v_8 => .gop v_6 false (.fad 1 v_1) fun v_9 => .gop v_6 false (.ld1 v_9) fun v_10 => .gop v_6 false (.bin 0 .neq v_8 v_10) fun v_11 => .op (.pick v_6 (AV.bool true) v_11) fun v_12 => .gop v_12 false (.fad 2 v) fun v_13 => .gop v_12 false (.ld1 v_13) fun v_14 => .gop v_12 false (.fad 2 v_1) fun v_15 => .gop v_12 false (.ld1 v_15) fun v_16 => .gop v_12 false (.bin 1 .neq v_14 v_16) fun v_17 => .op (.pick v_12 (AV.bool true) v_17) fun v_18 => .gop v_18 false (.fad 3 v) fun v_19 => .gop v_18 false (.ld1 v_19) fun v_20 => .gop v_18 false (.fad 3 v_1) fun v_21 => .gop v_18 false (.ld1 v_21) fun v_22 => .gop v_18 false (.bin 1 .neq v_20 v_22) fun v_23 => .op (.pick v_18 (AV.bool true) v_23) fun v_24 => .gop v_24 false (.fad 4 v) fun v_25 => .gop v_24 false (.ld1 v_25) fun v_26 => .gop v_24 false (.len 0 v_26) fun v_27 => .gop v_24 false (.fad 4 v_1) fun v_28 => .gop v_24 false (.ld1 v_28) fun v_29 => .gop v_24 false (.len 0 v_29) fun v_30 => .gop v_24 false (.bin 0 .neq v_27 v_30) fun v_31 => .op (.pick v_24 (AV.bool true) v_31) fun v_32 => .ite v_32 (.fin [.val (AV.bool false)]) (.loop [AV.int .i64 0] (fun vs => .op (.fad 4 v) fun v_33 => .op (.ld1 v_33) fun v_34 => .op (.len 0 v_34) fun v_35 => .op (.bin 0 .lss (g vs 0) v_35) fun v_36 => .ite v_36 (.op (.fad 4 v) fun v => .op (.ld1 v) fun v => .op (.idx 5 v (g vs 0)) fun v => .op (.ldn 5 v) fun v => .op (.fad 4 v_1) fun v_37 => .op (.ld1 v_37) fun v_38 => .op (.idx 5 v_38 (g vs 0)) fun v_39 => .op (.ldn 5 v_39) fun v_40 => .op (.call n_spec_SamePol [v, v_40]) fun v => .op (.una .not v) fun v => .ite v (.fin [.val (AV.bool false)]) (.op (.bin 0 .add (g vs 0) (AV.int .i64 1)) fun v => .leaf 0 [v])) (.leaf 2 [g vs 0])) fun t vs => tsel t 1 (.leaf 1 vs) (tsel t 2 (.fin [.val (AV.bool true)]) .bad))
theorem c_spec_SamePol (x0 x1 : AV) {h : AH} {R : AV → AH → Prop} (g : (p_spec_SamePol x0 x1).awp Try.prog h fun t vs h' => t = 1 ∧ ∃ v, vs = [v] ∧ R v h') : ACalls Try.prog n_spec_SamePol [x0, x1] h R :=
  acalls_of follows Try.func75 (by kernel_rfl) (by kernel_rfl) [2, 3, 5] (fun r => if r = 6 then [(0, []), (1, []), (2, []), (3, []), (4, []), (5, []), (6, []), (7, []), (8, []), (9, []), (10, []), (11, [])] else []) (show trF Try.prog Try.f75 _ _ [x0, x1] = p_spec_SamePol x0 x1 by kernel_rfl) g
/- slices.EqualFunc[[]impl.Pol,[]impl.Pol,impl.Pol,impl.Pol] -/
def p_slices_EqualFunc_Pol (x0 x1 x2 : AV) : Prog := .op (.len 0 x0) fun v => .op (.len 0 x1) fun v_1 => .op (.bin 0 .neq v v_1) fun v => .ite v (.fin [.val (AV.bool false)]) (.op (.len 0 x0) fun v => .loop [AV.int .i64 0] (fun vs => .op (.bin 0 .lss (g vs 0) v) fun v => .ite v (.op (.idx 5 x0 (g vs 0)) fun v => .op (.ldn 5 v) fun v => .op (.alloc [AV.int .i64 0, AV.int .i64 0, AV.str ⟨#[]⟩, AV.str ⟨#[]⟩, AV.nils]) fun v_2 => .op (.st 5 v_2 v) fun v => .op (.idx 5 x1 (g vs 0)) fun v => .op (.ldn 5 v) fun v => .op (.alloc [AV.int .i64 0, AV.int .i64 0, AV.str ⟨#[]⟩, AV.str ⟨#[]⟩, AV.nils]) fun v_3 => .op (.st 5 v_3 v) fun v => .op (.ldn 5 v_2) fun v => .op (.ldn 5 v_3) fun v_4 => .op (.callv x2 [v, v_4]) fun v => .op (.una .not v) fun v => .ite v (.fin [.val (AV.bool false)]) (.op (.bin 0 .add (g vs 0) (AV.int .i64 1)) fun v => .leaf 0 [v])) (.leaf 2 [g vs 0])) fun t vs => tsel t 1 (.leaf 1 vs) (tsel t 2 (.fin [.val (AV.bool true)]) .bad))
theorem c_slices_EqualFunc_Pol (x0 x1 x2 : AV) {h : AH} {R : AV → AH → Prop} (g : (p_slices_EqualFunc_Pol x0 x1 x2).awp Try.prog h fun t vs h' => t = 1 ∧ ∃ v, vs = [v] ∧ R v h') : ACalls Try.prog n_slices_EqualFunc_Pol [x0, x1, x2] h R :=
  acalls_of follows Try.func110 (by kernel_rfl) (by kernel_rfl) [1, 2, 15, 16, 17] (fun _ => []) (show trF Try.prog Try.f110 _ _ [x0, x1, x2] = p_slices_EqualFunc_Pol x0 x1 x2 by kernel_rfl) g
/- impl.SameConf -/
def p_impl_SameConf (x0 x1 : AV) : Prog := .op (.box x0) fun v => .op (.box x1) fun v_1 => .op (.fad 0 v) fun v_2 => .op (.ld1 v_2) fun v_3 => .op (.fad 0 v_1) fun v_4 => .op (.ld1 v_4) fun v_5 => .op (.bin 0 .eql v_3 v_5) fun v_6 => .gop v_6 true (.fad 1 v) fun v_7 => .gop v_6 true (.ld1 v_7) fun v_8 => .gop v_6 true (.fad 1 v_1) fun v_9 => .gop v_6 true (.ld1 v_9) fun v_10 => .gop v_6 true (.bin 0 .eql v_8 v_10) fun v_11 => .op (.pick v_6 v_11 (AV.bool false)) fun v_12 => .gop v_12 true (.fad 2 v) fun v_13 => .gop v_12 true (.ld1 v_13) fun v_14 => .gop v_12 true (.fad 2 v_1) fun v_15 => .gop v_12 true (.ld1 v_15) fun v_16 => .gop v_12 true (.bin 0 .eql v_14 v_16) fun v_17 => .op (.pick v_12 v_17 (AV.bool false)) fun v_18 => .gop v_18 true (.fad 3 v) fun v_19 => .gop v_18 true (.ld1 v_19) fun v_20 => .gop v_18 true (.fad 3 v_1) fun v_21 => .gop v_18 true (.ld1 v_21) fun v_22 => .gop v_18 true (.bin 0 .eql v_20 v_22) fun v_23 => .op (.pick v_18 v_23 (AV.bool false)) fun v_24 => .gop v_24 true (.fad 4 v) fun v_25 => .gop v_24 true (.ld1 v_25) fun v_26 => .gop v_24 true (.fad 4 v_1) fun v_27 => .gop v_24 true (.ld1 v_27) fun v_28 => .gop v_24 true (.bin 0 .eql v_26 v_28) fun v_29 => .op (.pick v_24 v_29 (AV.bool false)) fun v_30 => .gop v_30 true (.fad 5 v) fun v_31 => .gop v_30 true (.ld1 v_31) fun v_32 => .gop v_30 true (.fad 5 v_1) fun v_33 => .gop v_30 true (.ld1 v_33) fun v_34 => .gop v_30 true (.bin 0 .eql v_32 v_34) fun v_35 => .op (.pick v_30 v_35 (AV.bool false)) fun v_36 => .gop v_36 true (.fad 6 v) fun v_37 => .gop v_36 true (.ld1 v_37) fun v_38 => .gop v_36 true (.fad 6 v_1) fun v_39 => .gop v_36 true (.ld1 v_39) fun v_40 => .gop v_36 true (.bin 0 .eql v_38 v_40) fun v_41 => .op (.pick v_36 v_41 (AV.bool false)) fun v_42 => .gop v_42 true (.fad 7 v) fun v => .gop v_42 true (.ldn 5 v) fun v => .gop v_42 true (.fad 7 v_1) fun v_43 => .gop v_42 true (.ldn 5 v_43) fun v_44 => .gop v_42 true (.call n_impl_SamePol [v, v_44]) fun v => .op (.pick v_42 v (AV.bool false)) fun v => .fin [.val v]
theorem c_impl_SameConf (x0 x1 : AV) {h : AH} {R : AV → AH → Prop} (g : (p_impl_SameConf x0 x1).awp Try.prog h fun t vs h' => t = 1 ∧ ∃ v, vs = [v] ∧ R v h') : ACalls Try.prog n_impl_SameConf [x0, x1] h R :=
  acalls_of follows Try.func21 (by kernel_rfl) (by kernel_rfl) [] (fun _ => []) (show trF Try.prog Try.f21 _ _ [x0, x1] = p_impl_SameConf x0 x1 by kernel_rfl) g
/- spec.SameConf -/
def p_spec_SameConf (x0 x1 : AV) : Prog := .op (.box x0) fun v => .op (.box x1) fun v_1 => .op (.fad 0 v) fun v_2 => .op (.ld1 v_2) fun v_3 => .op (.fad 0 v_1) fun v_4 => .op (.ld1 v_4) fun v_5 => .op (.bin 0 .eql v_3 v_5) fun v_6 => .gop v_6 true (.fad 1 v) fun v_7 => .gop v_6 true (.ld1 v_7) fun v_8 => .gop v_6 true (.fad 1 v_1) fun v_9 => .gop v_6 true (.ld1 v_9) fun v_10 => .gop v_6 true (.bin 0 .eql v_8 v_10) fun v_11 => .op (.pick v_6 v_11 (AV.bool false)) fun v_12 => .gop v_12 true (.fad 2 v) fun v_13 => .gop v_12 true (.ld1 v_13) fun v_14 => .gop v_12 true (.fad 2 v_1) fun v_15 => .gop v_12 true (.ld1 v_15) fun v_16 => .gop v_12 true (.bin 0 .eql v_14 v_16) fun v_17 => .op (.pick v_12 v_17 (AV.bool false)) fun v_18 => .gop v_18 true (.fad 3 v) fun v_19 => .gop v_18 true (.ld1 v_19) fun v_20 => .gop v_18 true (.fad 3 v_1) fun v_21 => .gop v_18 true (.ld1 v_21) fun v_22 => .gop v_18 true (.bin 0 .eql v_20 v_22) fun v_23 => .op (.pick v_18 v_23 (AV.bool false)) fun v_24 => .gop v_24 true (.fad 4 v) fun v_25 => .gop v_24 true (.ld1 v_25) fun v_26 => .gop v_24 true (.fad 4 v_1) fun v_27 => .gop v_24 true (.ld1 v_27) fun v_28 => .gop v_24 true (.bin 0 .eql v_26 v_28) fun v_29 => .op (.pick v_24 v_29 (AV.bool false)) fun v_30 => .gop v_30 true (.fad 5 v) fun v_31 => .gop v_30 true (.ld1 v_31) fun v_32 => .gop v_30 true (.fad 5 v_1) fun v_33 => .gop v_30 true (.ld1 v_33) fun v_34 => .gop v_30 true (.bin 0 .eql v_32 v_34) fun v_35 => .op (.pick v_30 v_35 (AV.bool false)) fun v_36 => .gop v_36 true (.fad 6 v) fun v_37 => .gop v_36 true (.ld1 v_37) fun v_38 => .gop v_36 true (.fad 6 v_1) fun v_39 => .gop v_36 true (.ld1 v_39) fun v_40 => .gop v_36 true (.bin 0 .eql v_38 v_40) fun v_41 => .op (.pick v_36 v_41 (AV.bool false)) fun v_42 => .gop v_42 true (.fad 7 v) fun v => .gop v_42 true (.ldn 5 v) fun v => .gop v_42 true (.fad 7 v_1) fun v_43 => .gop v_42 true (.ldn 5 v_43) fun v_44 => .gop v_42 true (.call n_spec_SamePol [v, v_44]) fun v => .op (.pick v_42 v (AV.bool false)) fun v => .fin [.val v]
theorem c_spec_SameConf (x0 x1 : AV) {h : AH} {R : AV → AH → Prop} (g : (p_spec_SameConf x0 x1).awp Try.prog h fun t vs h' => t = 1 ∧ ∃ v, vs = [v] ∧ R v h') : ACalls Try.prog n_spec_SameConf [x0, x1] h R :=
  acalls_of follows Try.func20 (by kernel_rfl) (by kernel_rfl) [] (fun _ => []) (show trF Try.prog Try.f20 _ _ [x0, x1] = p_spec_SameConf x0 x1 by kernel_rfl) g
end
theorem pol_eq {a b : Pol} : a = b ↔ a.kind = b.kind ∧ a.n = b.n ∧ a.key = b.key ∧ a.text = b.text ∧ a.l = b.l := by
  cases a; cases b
  simp [Pol.mk.injEq, Pol.kind, Pol.n, Pol.key, Pol.text, Pol.l]

theorem s_impl_SamePol (a : Pol) : ∀ {h : AH} {b : Pol} {v v' : AV} {F F' : List Nat} (r : SlRep h v a.l F) (r' : SlRep h v' b.l F'), RCalls Try.prog n_impl_SamePol [.agg (a.cs v), .agg (b.cs v')] h (.bool (bp (a = b))) := by
  refine pol_ind (p := fun a => ∀ {h : AH} {b : Pol} {v v' : AV} {F F' : List Nat} (r : SlRep h v a.l F) (r' : SlRep h v' b.l F'), RCalls Try.prog n_impl_SamePol [.agg (a.cs v), .agg (b.cs v')] h (.bool (bp (a = b)))) ?_ a
  intro a ih h b v v' F F' r r'
  have s_slices_EqualFunc_Pol : ∀ {h : AH} {ys : List Pol} {v0 v1 : AV} {F G : List Nat} (r : SlRep h v0 a.l F) (r' : SlRep h v1 ys G), RCalls Try.prog n_slices_EqualFunc_Pol [v0, v1, .fn n_impl_SamePol []] h (.bool (bp (a.l = ys))) := by
    intro h ys v0 v1 F G r r'
    refine reader (c_slices_EqualFunc_Pol _ _ _) (by simp only [old]) ?_
    refine eqF_spec (w := 5) rfl rfl r r' ?_
    intro x hx y cs cs' F F' h' _ q q'
    rw [Pol.rep_iff] at q q'
    obtain ⟨w, rfl, q⟩ := q
    obtain ⟨w', rfl, q'⟩ := q'
    exact ih x hx q q'
  refine reader (c_impl_SamePol _ _) (by simp only [old]) ?_
  unfold p_impl_SamePol
  (repeat' first|refine vs ?_|(refine br ?_ ?_<;>intro _<;>try(exfalso;first|omega|contradiction))|((with_reducible refine g_callf n_slices_EqualFunc_Pol ?_);(refine aw_rcall_b (s_slices_EqualFunc_Pol slr_auto slr_auto) ?_ ?_ <;> intro hn <;> first | replace hn := bp_true hn | replace hn := bp_false hn))|((with_reducible refine g_idx ?_);((first|refine ix ?_|refine ixi ?_|(refine ixg ?_;intro _ _)|(refine ixgi ?_;intro _ _));first|rintro _ _ _ _ _ ⟨rfl,rfl⟩ _|rintro _ _ _ _ _ ⟨_,rfl,_⟩ _|rintro _ _ _ _ _ ⟨_,_,_,_,rfl,rfl,_,_⟩ _|intro _ _ _ _ _ _ _))|(refine sx ?_;intro _ _))
  all_goals first
    | (refine pf ?_; rintro rfl; first | contradiction | (simp_all; done))
    | (refine pt ?_; rw [pol_eq]; simp_all; done)

theorem s_spec_SamePol (a : Pol) : ∀ {h : AH} {b : Pol} {v v' : AV} {F F' : List Nat} (r : SlRep h v a.l F) (r' : SlRep h v' b.l F'), RCalls Try.prog n_spec_SamePol [.agg (a.cs v), .agg (b.cs v')] h (.bool (bp (a = b))) := by
  refine pol_ind (p := fun a => ∀ {h : AH} {b : Pol} {v v' : AV} {F F' : List Nat} (r : SlRep h v a.l F) (r' : SlRep h v' b.l F'), RCalls Try.prog n_spec_SamePol [.agg (a.cs v), .agg (b.cs v')] h (.bool (bp (a = b)))) ?_ a
  intro a ih h b v v' F F' r r'
  refine reader (c_spec_SamePol _ _) (by simp only [old]) ?_
  unfold p_spec_SamePol
  have hsm := r.small
  (repeat' first|refine vs ?_|(refine br ?_ ?_<;>intro _<;>try(exfalso;first|omega|contradiction))|((with_reducible refine g_idx ?_);((first|refine ix ?_|refine ixi ?_|(refine ixg ?_;intro _ _)|(refine ixgi ?_;intro _ _));first|rintro _ _ _ _ _ ⟨rfl,rfl⟩ _|rintro _ _ _ _ _ ⟨_,rfl,_⟩ _|rintro _ _ _ _ _ ⟨_,_,_,_,rfl,rfl,_,_⟩ _|intro _ _ _ _ _ _ _))|(refine sx ?_;intro _ _))
  all_goals first
    | (refine pf ?_; rintro rfl; first | contradiction | omega | (simp_all; done))
    | skip
  refine aw_upto a.l.length (fun i vs h1 => vs = [.int .i64 (i : Int)] ∧ i ≤ a.l.length ∧ Ext ((h.push ⟨a.cs v, 0, 0⟩).push ⟨b.cs v', 0, 0⟩) h1 ∧ EqUp a.l b.l i) ⟨rfl, Nat.zero_le _, ext_auto, eu0⟩ ?_
  rintro i vs h1 _ ⟨rfl, hi, e1, hu⟩
  simp only [g0]
  refine vs ?_
  refine br (fun hlt => ?_) (fun hge => ?_)
  · obtain ⟨x, hx, -, -⟩ := drop_step (show i < a.l.length by omega)
    obtain ⟨y, hy, -, -⟩ := drop_step (show i < b.l.length by omega)
    refine vs ?_
    refine aw_idx r hx rfl ?_
    intro bb o cs Fi aa q _
    rw [Pol.rep_iff] at q
    obtain ⟨w, rfl, q⟩ := q
    refine vs ?_
    refine aw_idx r' hy rfl ?_
    intro bb' o' cs' Fi' aa' q' _
    rw [Pol.rep_iff] at q'
    obtain ⟨w', rfl, q'⟩ := q'
    have s_spec_SamePol := @ih x (List.mem_of_getElem? hx)
    (repeat' first|refine vs ?_|(refine br ?_ ?_<;>intro _<;>try(exfalso;first|omega|contradiction))|((with_reducible refine g_callf n_spec_SamePol ?_);(refine aw_rcall_b (s_spec_SamePol slr_auto slr_auto) ?_ ?_ <;> intro hn <;> first | replace hn := bp_true hn | replace hn := bp_false hn))|((with_reducible refine g_idx ?_);((first|refine ix ?_|refine ixi ?_|(refine ixg ?_;intro _ _)|(refine ixgi ?_;intro _ _));first|rintro _ _ _ _ _ ⟨rfl,rfl⟩ _|rintro _ _ _ _ _ ⟨_,rfl,_⟩ _|rintro _ _ _ _ _ ⟨_,_,_,_,rfl,rfl,_,_⟩ _|intro _ _ _ _ _ _ _))|(refine sx ?_;intro _ _))
    · exact ⟨by omega, rfl, by omega, ext_auto, euS hu hx hy hn⟩
    · refine pf ?_
      rintro rfl
      exact euNot hx hy hn rfl
  · (repeat' first|refine vs ?_|(refine br ?_ ?_<;>intro _<;>try(exfalso;first|omega|contradiction))|((with_reducible refine g_idx ?_);((first|refine ix ?_|refine ixi ?_|(refine ixg ?_;intro _ _)|(refine ixgi ?_;intro _ _));first|rintro _ _ _ _ _ ⟨rfl,rfl⟩ _|rintro _ _ _ _ _ ⟨_,rfl,_⟩ _|rintro _ _ _ _ _ ⟨_,_,_,_,rfl,rfl,_,_⟩ _|intro _ _ _ _ _ _ _))|(refine sx ?_;intro _ _))
    have e : a.l = b.l := euEnd (by rw [show i = a.l.length by omega] at hu; exact hu) (by omega)
    refine pt ?_
    rw [pol_eq]; simp_all

theorem conf_eq {a b : Conf} : a = b ↔ a.stripes = b.stripes ∧ a.wait = b.wait ∧ a.budget = b.budget ∧ a.cache = b.cache ∧ a.queue = b.queue ∧ a.rate = b.rate ∧ a.burst = b.burst ∧ a.rule = b.rule := by
  cases a; cases b
  simp [Conf.mk.injEq]
theorem s_impl_SameConf {h : AH} {a b : Conf} {v v' : AV} {F F' : List Nat} (r : SlRep h v a.rule.l F) (r' : SlRep h v' b.rule.l F') : RCalls Try.prog n_impl_SameConf [.agg (a.cs v), .agg (b.cs v')] h (.bool (bp (a = b))) := by
  refine reader (c_impl_SameConf _ _) (by simp only [old]) ?_
  unfold p_impl_SameConf
  (repeat' first|refine vs ?_|(refine br ?_ ?_<;>intro _<;>try(exfalso;first|omega|contradiction))|((with_reducible refine g_callf n_impl_SamePol ?_);(refine aw_rcall_b (s_impl_SamePol a.rule (b := b.rule) slr_auto slr_auto) ?_ ?_ <;> intro hn <;> first | replace hn := bp_true hn | replace hn := bp_false hn))|((with_reducible refine g_idx ?_);((first|refine ix ?_|refine ixi ?_|(refine ixg ?_;intro _ _)|(refine ixgi ?_;intro _ _));first|rintro _ _ _ _ _ ⟨rfl,rfl⟩ _|rintro _ _ _ _ _ ⟨_,rfl,_⟩ _|rintro _ _ _ _ _ ⟨_,_,_,_,rfl,rfl,_,_⟩ _|intro _ _ _ _ _ _ _))|(refine sx ?_;intro _ _))
  all_goals first
    | (refine pf ?_; rintro rfl; first | contradiction | (simp_all; done))
    | (refine pt ?_; rw [conf_eq]; simp_all; done)
theorem s_spec_SameConf {h : AH} {a b : Conf} {v v' : AV} {F F' : List Nat} (r : SlRep h v a.rule.l F) (r' : SlRep h v' b.rule.l F') : RCalls Try.prog n_spec_SameConf [.agg (a.cs v), .agg (b.cs v')] h (.bool (bp (a = b))) := by
  refine reader (c_spec_SameConf _ _) (by simp only [old]) ?_
  unfold p_spec_SameConf
  (repeat' first|refine vs ?_|(refine br ?_ ?_<;>intro _<;>try(exfalso;first|omega|contradiction))|((with_reducible refine g_callf n_spec_SamePol ?_);(refine aw_rcall_b (s_spec_SamePol a.rule (b := b.rule) slr_auto slr_auto) ?_ ?_ <;> intro hn <;> first | replace hn := bp_true hn | replace hn := bp_false hn))|((with_reducible refine g_idx ?_);((first|refine ix ?_|refine ixi ?_|(refine ixg ?_;intro _ _)|(refine ixgi ?_;intro _ _));first|rintro _ _ _ _ _ ⟨rfl,rfl⟩ _|rintro _ _ _ _ _ ⟨_,rfl,_⟩ _|rintro _ _ _ _ _ ⟨_,_,_,_,rfl,rfl,_,_⟩ _|intro _ _ _ _ _ _ _))|(refine sx ?_;intro _ _))
  all_goals first
    | (refine pf ?_; rintro rfl; first | contradiction | (simp_all; done))
    | (refine pt ?_; rw [conf_eq]; simp_all; done)
end Go.Proofs.Ytjjaefhldldpkaa
