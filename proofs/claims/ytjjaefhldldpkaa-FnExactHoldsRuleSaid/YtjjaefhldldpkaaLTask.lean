/- Task: copies, comparisons, sizes. Written by mkl.py. -/
import Derived.Test.YtjjaefhldldpkaaLItem
set_option linter.unusedSimpArgs false
set_option linter.unusedVariables false
set_option maxHeartbeats 1000000
namespace Go.Proofs.Ytjjaefhldldpkaa
open Go Go.Ab
section
/- laws.toTask -/
def p_laws_toTask (x0 : AV) : Prog := .op (.box x0) fun v => .op (.alloc [AV.int .i64 0, AV.int .i64 0, AV.int .i64 0, AV.int .i64 0, AV.int .i64 0, AV.int .i64 0, AV.bool false, AV.nils, AV.int .i64 0, AV.int .i64 0, AV.nils, AV.int .i64 0]) fun v_1 => .op (.alloc [AV.int .i64 0, AV.int .i64 0, AV.int .i64 0, AV.int .i64 0, AV.int .i64 0, AV.int .i64 0, AV.bool false, AV.nils, AV.int .i64 0, AV.int .i64 0, AV.nils, AV.int .i64 0]) fun v_2 => .op (.fad 0 v) fun v_3 => .op (.ld1 v_3) fun v_4 => .op (.fad 0 v_2) fun v_5 => .op (.st 1 v_5 v_4) fun v_6 => .op (.fad 1 v) fun v_7 => .op (.ld1 v_7) fun v_8 => .op (.fad 1 v_2) fun v_9 => .op (.st 1 v_9 v_8) fun v_10 => .op (.fad 2 v) fun v_11 => .op (.ldn 6 v_11) fun v_12 => .op (.call n_laws_toSpan [v_12]) fun v_13 => .op (.fad 2 v_2) fun v_14 => .op (.st 6 v_14 v_13) fun v_15 => .op (.fad 8 v) fun v_16 => .op (.ld1 v_16) fun v_17 => .op (.fad 8 v_2) fun v_18 => .op (.st 1 v_18 v_17) fun v_19 => .op (.fad 9 v) fun v_20 => .op (.ld1 v_20) fun v_21 => .op (.fad 9 v_2) fun v_22 => .op (.st 1 v_22 v_21) fun v_23 => .op (.fad 10 v) fun v_24 => .op (.ld1 v_24) fun v_25 => .op (.call n_laws_toItemS [v_25]) fun v_26 => .op (.fad 10 v_2) fun v_27 => .op (.st 1 v_27 v_26) fun v_28 => .op (.fad 11 v) fun v => .op (.ld1 v) fun v => .op (.fad 11 v_2) fun v_29 => .op (.st 1 v_29 v) fun v => .op (.ldn 12 v_2) fun v => .op (.st 12 v_1 v) fun v => .fin [.cn 12 v_1]
theorem c_laws_toTask (x0 : AV) {h : AH} {R : AV → AH → Prop} (g : (p_laws_toTask x0).awp Try.prog h fun t vs h' => t = 1 ∧ ∃ v, vs = [v] ∧ R v h') : ACalls Try.prog n_laws_toTask [x0] h R :=
  acalls_of follows Try.func51 (by kernel_rfl) (by kernel_rfl) [] (fun _ => []) (show trF Try.prog Try.f51 _ _ [x0] = p_laws_toTask x0 by kernel_rfl) g
/- laws.eqTask -/
def p_laws_eqTask (x0 x1 : AV) : Prog := .op (.box x0) fun v => .op (.box x1) fun v_1 => .op (.fad 0 v) fun v_2 => .op (.ld1 v_2) fun v_3 => .op (.fad 0 v_1) fun v_4 => .op (.ld1 v_4) fun v_5 => .op (.bin 0 .neq v_3 v_5) fun v_6 => .ite v_6 (.fin [.val (AV.bool false)]) (.op (.fad 1 v) fun v_7 => .op (.ld1 v_7) fun v_8 => .op (.fad 1 v_1) fun v_9 => .op (.ld1 v_9) fun v_10 => .op (.bin 0 .neq v_8 v_10) fun v_11 => .ite v_11 (.fin [.val (AV.bool false)]) (.op (.fad 2 v) fun v_12 => .op (.ldn 6 v_12) fun v_13 => .op (.fad 2 v_1) fun v_14 => .op (.ldn 6 v_14) fun v_15 => .op (.call n_laws_eqSpan [v_13, v_15]) fun v_16 => .op (.una .not v_16) fun v_17 => .ite v_17 (.fin [.val (AV.bool false)]) (.op (.fad 8 v) fun v_18 => .op (.ld1 v_18) fun v_19 => .op (.fad 8 v_1) fun v_20 => .op (.ld1 v_20) fun v_21 => .op (.bin 0 .neq v_19 v_21) fun v_22 => .ite v_22 (.fin [.val (AV.bool false)]) (.op (.fad 9 v) fun v_23 => .op (.ld1 v_23) fun v_24 => .op (.fad 9 v_1) fun v_25 => .op (.ld1 v_25) fun v_26 => .op (.bin 0 .neq v_24 v_26) fun v_27 => .ite v_27 (.fin [.val (AV.bool false)]) (.op (.fad 10 v) fun v_28 => .op (.ld1 v_28) fun v_29 => .op (.fad 10 v_1) fun v_30 => .op (.ld1 v_30) fun v_31 => .op (.call n_laws_eqItemS [v_29, v_31]) fun v_32 => .op (.una .not v_32) fun v_33 => .ite v_33 (.fin [.val (AV.bool false)]) (.op (.fad 11 v) fun v => .op (.ld1 v) fun v => .op (.fad 11 v_1) fun v_34 => .op (.ld1 v_34) fun v_35 => .op (.bin 0 .neq v v_35) fun v => .ite v (.fin [.val (AV.bool false)]) (.fin [.val (AV.bool true)])))))))
theorem c_laws_eqTask (x0 x1 : AV) {h : AH} {R : AV → AH → Prop} (g : (p_laws_eqTask x0 x1).awp Try.prog h fun t vs h' => t = 1 ∧ ∃ v, vs = [v] ∧ R v h') : ACalls Try.prog n_laws_eqTask [x0, x1] h R :=
  acalls_of follows Try.func53 (by kernel_rfl) (by kernel_rfl) [] (fun _ => []) (show trF Try.prog Try.f53 _ _ [x0, x1] = p_laws_eqTask x0 x1 by kernel_rfl) g
/- laws.szTask -/
def p_laws_szTask (x0 x1 : AV) : Prog := .op (.box x0) fun v => .op (.fad 2 v) fun v_1 => .op (.ldn 6 v_1) fun v_2 => .op (.call n_laws_szSpan [v_2, x1]) fun v_3 => .op (.bin 0 .lss v_3 (AV.int .i64 0)) fun v_4 => .ite v_4 (.fin [.val (AV.int .i64 (-1))]) (.op (.fad 10 v) fun v => .op (.ld1 v) fun v => .op (.call n_laws_szItemS [v, v_3]) fun v => .op (.bin 0 .lss v (AV.int .i64 0)) fun v_5 => .ite v_5 (.fin [.val (AV.int .i64 (-1))]) (.fin [.val v]))
theorem c_laws_szTask (x0 x1 : AV) {h : AH} {R : AV → AH → Prop} (g : (p_laws_szTask x0 x1).awp Try.prog h fun t vs h' => t = 1 ∧ ∃ v, vs = [v] ∧ R v h') : ACalls Try.prog n_laws_szTask [x0, x1] h R :=
  acalls_of follows Try.func49 (by kernel_rfl) (by kernel_rfl) [] (fun _ => []) (show trF Try.prog Try.f49 _ _ [x0, x1] = p_laws_szTask x0 x1 by kernel_rfl) g
end
theorem s_laws_toTask (x : Task) (hs : Sz.sz x ≤ 1048576) : CopyX Task Try.prog n_laws_toTask x := by
  rintro cs F h ⟨v0, v1, F0, F1, rfl, rfl, r0, r1⟩
  have hs : Sz.sz x.s + (x.hand.length + szs x.hand) ≤ 1048576 := hs
  have e_s : Sz.sz x.s = (x.s.attrs.length + szs x.s.attrs) := rfl
  refine c_laws_toTask _ ?_
  unfold p_laws_toTask
  (repeat' first|refine vs ?_|(refine br ?_ ?_<;>intro _<;>try(exfalso;first|omega|contradiction))|((with_reducible refine g_callf n_laws_toSpan ?_);(refine aw_call (s_laws_toSpan _ om_auto _ _ _ ⟨_, rfl, slr_auto⟩) ?_; rintro _ _ ⟨e_, _, _, rfl, ⟨_, rfl, _⟩, _⟩; have n_ := e_.1; (try simp only [push_n, upd_n] at n_)))|((with_reducible refine g_callf n_laws_toItemS ?_);(refine aw_call (copy_r s_laws_toItemS slr_auto om_auto) ?_; rintro _ _ ⟨e_, _, _, _⟩; have n_ := e_.1; (try simp only [push_n, upd_n] at n_)))|((with_reducible refine g_idx ?_);((first|refine ix ?_|refine ixi ?_|(refine ixg ?_;intro _ _)|(refine ixgi ?_;intro _ _));first|rintro _ _ _ _ _ ⟨rfl,rfl⟩ _|rintro _ _ _ _ _ ⟨_,rfl,_⟩ _|rintro _ _ _ _ _ ⟨_,_,_,_,rfl,rfl,_,_⟩ _|intro _ _ _ _ _ _ _))|(refine sx ?_;intro _ _))
  exact ⟨rfl, _, rfl, ext_auto, _, _, rfl, ⟨_, _, _, _, rfl, rfl, slr_auto, slr_auto⟩, (ol_app2 oll_auto oll_auto dis_auto).1⟩
theorem s_laws_eqTask : EqC Task Try.prog n_laws_eqTask := by
  rintro x cs cs' F F' h ⟨v0, v1, F0, F1, rfl, rfl, r0, r1⟩ ⟨u0, u1, G0, G1, rfl, rfl, q0, q1⟩
  refine reader (c_laws_eqTask _ _) (by simp only [old]) ?_
  unfold p_laws_eqTask
  (repeat' first|refine vs ?_|(refine br ?_ ?_<;>intro _<;>try(exfalso;first|omega|contradiction))|((with_reducible refine g_callf n_laws_eqSpan ?_);refine aw_rcall (s_laws_eqSpan _ _ _ _ _ _ ⟨_, rfl, slr_auto⟩ ⟨_, rfl, slr_auto⟩) ?_)|((with_reducible refine g_callf n_laws_eqItemS ?_);refine aw_rcall (s_laws_eqItemS _ _ _ _ _ _ slr_auto slr_auto) ?_)|((with_reducible refine g_idx ?_);((first|refine ix ?_|refine ixi ?_|(refine ixg ?_;intro _ _)|(refine ixgi ?_;intro _ _));first|rintro _ _ _ _ _ ⟨rfl,rfl⟩ _|rintro _ _ _ _ _ ⟨_,rfl,_⟩ _|rintro _ _ _ _ _ ⟨_,_,_,_,rfl,rfl,_,_⟩ _|intro _ _ _ _ _ _ _))|(refine sx ?_;intro _ _))
  exact pb rfl
theorem s_laws_szTask : SzC Task Try.prog n_laws_szTask := by
  rintro x ok cs F b h ⟨v0, v1, F0, F1, rfl, rfl, r0, r1⟩ h0 h1
  obtain ⟨ok_op, ok_pc, ok_s, ok_trace, ok_stamp, ok_hand, ok_h⟩ := ok
  have hS : Sz.sz x = Sz.sz x.s + (x.hand.length + szs x.hand) := rfl
  have e_s : Sz.sz x.s = (x.s.attrs.length + szs x.s.attrs) := rfl
  refine reader (c_laws_szTask _ _) (by simp only [old]) ?_
  unfold p_laws_szTask
  (repeat' first|refine vs ?_|(refine br ?_ ?_<;>intro _<;>try(exfalso;first|omega|contradiction))|((with_reducible refine g_callf n_laws_szSpan ?_);(refine aw_sz (s_laws_szSpan _ (by assumption) _ _ _ _ ⟨_, rfl, slr_auto⟩ om_auto om_auto) (fun _ => ?_) (fun _ => ?_)))|((with_reducible refine g_callf n_laws_szItemS ?_);(refine aw_sz (s_laws_szItemS _ (by assumption) _ _ _ _ slr_auto om_auto om_auto) (fun _ => ?_) (fun _ => ?_)))|((with_reducible refine g_idx ?_);((first|refine ix ?_|refine ixi ?_|(refine ixg ?_;intro _ _)|(refine ixgi ?_;intro _ _));first|rintro _ _ _ _ _ ⟨rfl,rfl⟩ _|rintro _ _ _ _ _ ⟨_,rfl,_⟩ _|rintro _ _ _ _ _ ⟨_,_,_,_,rfl,rfl,_,_⟩ _|intro _ _ _ _ _ _ _))|(refine sx ?_;intro _ _))
  all_goals (refine pi ?_; unfold szr; split <;> omega)
end Go.Proofs.Ytjjaefhldldpkaa
