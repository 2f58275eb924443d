
/- Conf: copies, comparisons, sizes. Written by mkl.py. -/
import Derived.Test.YtienckhjfcplcaaLPol
set_option linter.unusedSimpArgs false
set_option linter.unusedVariables false
set_option maxHeartbeats 1000000
namespace Go.Proofs.Ytienckhjfcplcaa
open Go Go.Ab
section
/- laws.toConf -/
def p_laws_toConf (x0 : AV) : Prog := .op (.box x0) fun v => .op (.alloc [AV.int .i64 0, AV.int .i64 0, AV.int .i64 0, AV.int .i64 0, AV.int .i64 0, AV.int .i64 0, AV.int .i64 0, AV.int .i64 0, AV.int .i64 0, AV.str ⟨#[]⟩, AV.str ⟨#[]⟩, AV.nils]) fun v_1 => .op (.alloc [AV.int .i64 0, AV.int .i64 0, AV.int .i64 0, AV.int .i64 0, AV.int .i64 0, AV.int .i64 0, AV.int .i64 0, AV.int .i64 0, AV.int .i64 0, AV.str ⟨#[]⟩, AV.str ⟨#[]⟩, AV.nils]) fun v_2 => .op (.fad 0 v) fun v_3 => .op (.ld1 v_3) fun v_4 => .op (.fad 0 v_2) fun v_5 => .op (.st 1 v_5 v_4) fun v_6 => .op (.fad 1 v) fun v_7 => .op (.ld1 v_7) fun v_8 => .op (.fad 1 v_2) fun v_9 => .op (.st 1 v_9 v_8) fun v_10 => .op (.fad 2 v) fun v_11 => .op (.ld1 v_11) fun v_12 => .op (.fad 2 v_2) fun v_13 => .op (.st 1 v_13 v_12) fun v_14 => .op (.fad 3 v) fun v_15 => .op (.ld1 v_15) fun v_16 => .op (.fad 3 v_2) fun v_17 => .op (.st 1 v_17 v_16) fun v_18 => .op (.fad 4 v) fun v_19 => .op (.ld1 v_19) fun v_20 => .op (.fad 4 v_2) fun v_21 => .op (.st 1 v_21 v_20) fun v_22 => .op (.fad 5 v) fun v_23 => .op (.ld1 v_23) fun v_24 => .op (.fad 5 v_2) fun v_25 => .op (.st 1 v_25 v_24) fun v_26 => .op (.fad 6 v) fun v_27 => .op (.ld1 v_27) fun v_28 => .op (.fad 6 v_2) fun v_29 => .op (.st 1 v_29 v_28) fun v_30 => .op (.fad 7 v) fun v => .op (.ldn 5 v) fun v => .op (.call n_laws_toPol [v]) fun v => .op (.fad 7 v_2) fun v_31 => .op (.st 5 v_31 v) fun v => .op (.ldn 12 v_2) fun v => .op (.st 12 v_1 v) fun v => .fin [.cn 12 v_1]
theorem c_laws_toConf (x0 : AV) {h : AH} {R : AV → AH → Prop} (g : (p_laws_toConf x0).awp Try.prog h fun t vs h' => t = 1 ∧ ∃ v, vs = [v] ∧ R v h') : ACalls Try.prog n_laws_toConf [x0] h R :=
  acalls_of follows Try.func17 (by kernel_rfl) (by kernel_rfl) [] (fun _ => []) (show trF Try.prog Try.f17 _ _ [x0] = p_laws_toConf x0 by kernel_rfl) g
/- laws.eqConf -/
def p_laws_eqConf (x0 x1 : AV) : Prog := .op (.box x0) fun v => .op (.box x1) fun v_1 => .op (.fad 0 v) fun v_2 => .op (.ld1 v_2) fun v_3 => .op (.fad 0 v_1) fun v_4 => .op (.ld1 v_4) fun v_5 => .op (.bin 0 .neq v_3 v_5) fun v_6 => .ite v_6 (.fin [.val (AV.bool false)]) (.op (.fad 1 v) fun v_7 => .op (.ld1 v_7) fun v_8 => .op (.fad 1 v_1) fun v_9 => .op (.ld1 v_9) fun v_10 => .op (.bin 0 .neq v_8 v_10) fun v_11 => .ite v_11 (.fin [.val (AV.bool false)]) (.op (.fad 2 v) fun v_12 => .op (.ld1 v_12) fun v_13 => .op (.fad 2 v_1) fun v_14 => .op (.ld1 v_14) fun v_15 => .op (.bin 0 .neq v_13 v_15) fun v_16 => .ite v_16 (.fin [.val (AV.bool false)]) (.op (.fad 3 v) fun v_17 => .op (.ld1 v_17) fun v_18 => .op (.fad 3 v_1) fun v_19 => .op (.ld1 v_19) fun v_20 => .op (.bin 0 .neq v_18 v_20) fun v_21 => .ite v_21 (.fin [.val (AV.bool false)]) (.op (.fad 4 v) fun v_22 => .op (.ld1 v_22) fun v_23 => .op (.fad 4 v_1) fun v_24 => .op (.ld1 v_24) fun v_25 => .op (.bin 0 .neq v_23 v_25) fun v_26 => .ite v_26 (.fin [.val (AV.bool false)]) (.op (.fad 5 v) fun v_27 => .op (.ld1 v_27) fun v_28 => .op (.fad 5 v_1) fun v_29 => .op (.ld1 v_29) fun v_30 => .op (.bin 0 .neq v_28 v_30) fun v_31 => .ite v_31 (.fin [.val (AV.bool false)]) (.op (.fad 6 v) fun v_32 => .op (.ld1 v_32) fun v_33 => .op (.fad 6 v_1) fun v_34 => .op (.ld1 v_34) fun v_35 => .op (.bin 0 .neq v_33 v_35) fun v_36 => .ite v_36 (.fin [.val (AV.bool false)]) (.op (.fad 7 v) fun v => .op (.ldn 5 v) fun v => .op (.fad 7 v_1) fun v_37 => .op (.ldn 5 v_37) fun v_38 => .op (.call n_laws_eqPol [v, v_38]) fun v => .op (.una .not v) fun v => .ite v (.fin [.val (AV.bool false)]) (.fin [.val (AV.bool true)]))))))))
theorem c_laws_eqConf (x0 x1 : AV) {h : AH} {R : AV → AH → Prop} (g : (p_laws_eqConf x0 x1).awp Try.prog h fun t vs h' => t = 1 ∧ ∃ v, vs = [v] ∧ R v h') : ACalls Try.prog n_laws_eqConf [x0, x1] h R :=
  acalls_of follows Try.func19 (by kernel_rfl) (by kernel_rfl) [] (fun _ => []) (show trF Try.prog Try.f19 _ _ [x0, x1] = p_laws_eqConf x0 x1 by kernel_rfl) g
/- laws.szConf -/
def p_laws_szConf (x0 x1 : AV) : Prog := .op (.box x0) fun v => .op (.fad 7 v) fun v => .op (.ldn 5 v) fun v => .op (.call n_laws_szPol [v, x1]) fun v => .op (.bin 0 .lss v (AV.int .i64 0)) fun v_1 => .ite v_1 (.fin [.val (AV.int .i64 (-1))]) (.fin [.val v])
theorem c_laws_szConf (x0 x1 : AV) {h : AH} {R : AV → AH → Prop} (g : (p_laws_szConf x0 x1).awp Try.prog h fun t vs h' => t = 1 ∧ ∃ v, vs = [v] ∧ R v h') : ACalls Try.prog n_laws_szConf [x0, x1] h R :=
  acalls_of follows Try.func15 (by kernel_rfl) (by kernel_rfl) [] (fun _ => []) (show trF Try.prog Try.f15 _ _ [x0, x1] = p_laws_szConf x0 x1 by kernel_rfl) g
end
theorem s_laws_toConf (x : Conf) (hs : Sz.sz x ≤ 1048576) : CopyX Conf Try.prog n_laws_toConf x := by
  rintro cs F h ⟨v0, rfl, r0⟩
  have hs : Sz.sz x.rule ≤ 1048576 := hs
  have e_rule : Sz.sz x.rule = x.rule.key.size + x.rule.text.size + (x.rule.l.length + szs x.rule.l) := Pol.sz_eq _
  refine c_laws_toConf _ ?_
  unfold p_laws_toConf
  (repeat' first|refine vs ?_|(refine br ?_ ?_<;>intro _<;>try(exfalso;first|omega|contradiction))|((with_reducible refine g_callf n_laws_toPol ?_);(refine aw_call (s_laws_toPol _ om_auto _ _ _ (Pol.rep_iff.2 ⟨_, rfl, slr_auto⟩)) ?_; rintro _ _ ⟨e_, _, _, rfl, r_, _⟩; obtain ⟨_, rfl, _⟩ := Pol.rep_iff.1 r_; have n_ := e_.1; (try simp only [push_n, upd_n] at n_)))|((with_reducible refine g_idx ?_);((first|refine ix ?_|refine ixi ?_|(refine ixg ?_;intro _ _)|(refine ixgi ?_;intro _ _));first|rintro _ _ _ _ _ ⟨rfl,rfl⟩ _|rintro _ _ _ _ _ ⟨_,rfl,_⟩ _|rintro _ _ _ _ _ ⟨_,_,_,_,rfl,rfl,_,_⟩ _|intro _ _ _ _ _ _ _))|(refine sx ?_;intro _ _)|((with_reducible refine g_awp ?_);simp only [g0,g1,g2]))
  exact ⟨rfl, _, rfl, ext_auto, _, _, rfl, ⟨_, rfl, slr_auto⟩, ol_auto⟩
theorem s_laws_eqConf : EqC Conf Try.prog n_laws_eqConf := by
  rintro x cs cs' F F' h ⟨v0, rfl, r0⟩ ⟨u0, rfl, q0⟩
  refine reader (c_laws_eqConf _ _) (by simp only [old]) ?_
  unfold p_laws_eqConf
  (repeat' first|refine vs ?_|(refine br ?_ ?_<;>intro _<;>try(exfalso;first|omega|contradiction))|((with_reducible refine g_callf n_laws_eqPol ?_);refine aw_rcall (s_laws_eqPol _ _ _ _ _ _ (Pol.rep_iff.2 ⟨_, rfl, slr_auto⟩) (Pol.rep_iff.2 ⟨_, rfl, slr_auto⟩)) ?_)|((with_reducible refine g_idx ?_);((first|refine ix ?_|refine ixi ?_|(refine ixg ?_;intro _ _)|(refine ixgi ?_;intro _ _));first|rintro _ _ _ _ _ ⟨rfl,rfl⟩ _|rintro _ _ _ _ _ ⟨_,rfl,_⟩ _|rintro _ _ _ _ _ ⟨_,_,_,_,rfl,rfl,_,_⟩ _|intro _ _ _ _ _ _ _))|(refine sx ?_;intro _ _)|((with_reducible refine g_awp ?_);simp only [g0,g1,g2]))
  exact pb rfl
theorem s_laws_szConf : SzC Conf Try.prog n_laws_szConf := by
  rintro x ok cs F b h ⟨v0, rfl, r0⟩ h0 h1
  obtain ⟨ok_stripes, ok_wait, ok_budget, ok_cache, ok_queue, ok_rate, ok_burst, ok_rule⟩ := ok
  have hS : Sz.sz x = Sz.sz x.rule := rfl
  have e_rule : Sz.sz x.rule = x.rule.key.size + x.rule.text.size + (x.rule.l.length + szs x.rule.l) := Pol.sz_eq _
  refine reader (c_laws_szConf _ _) (by simp only [old]) ?_
  unfold p_laws_szConf
  (repeat' first|refine vs ?_|(refine br ?_ ?_<;>intro _<;>try(exfalso;first|omega|contradiction))|((with_reducible refine g_callf n_laws_szPol ?_);(refine aw_sz (s_laws_szPol _ (by assumption) _ _ _ _ (Pol.rep_iff.2 ⟨_, rfl, slr_auto⟩) om_auto om_auto) (fun _ => ?_) (fun _ => ?_)))|((with_reducible refine g_idx ?_);((first|refine ix ?_|refine ixi ?_|(refine ixg ?_;intro _ _)|(refine ixgi ?_;intro _ _));first|rintro _ _ _ _ _ ⟨rfl,rfl⟩ _|rintro _ _ _ _ _ ⟨_,rfl,_⟩ _|rintro _ _ _ _ _ ⟨_,_,_,_,rfl,rfl,_,_⟩ _|intro _ _ _ _ _ _ _))|(refine sx ?_;intro _ _)|((with_reducible refine g_awp ?_);simp only [g0,g1,g2]))
  all_goals (refine pi ?_; unfold szr; split <;> omega)
end Go.Proofs.Ytienckhjfcplcaa
