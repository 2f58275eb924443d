
/- The law FnExactConfOk, walked. Written by mkx.py. -/
import Derived.Test.YtienckhjfcplcaaW9
import Derived.Test.YtienckhjfcplcaaLConf
set_option linter.unusedSimpArgs false
set_option linter.unusedVariables false
set_option maxHeartbeats 1000000
namespace Go.Proofs.Ytienckhjfcplcaa
open Go Go.Ab
section
/- laws.FnExactConfOk -/
def p_laws_FnExactConfOk (x0 : AV) : Prog := .op (.box x0) fun v => .op (.ldn 12 v) fun v_1 => .op (.call n_laws_szConf [v_1, AV.int .i64 1048576]) fun v_2 => .op (.bin 0 .lss v_2 (AV.int .i64 0)) fun v_3 => .ite v_3 (.fin [.val (AV.bool true)]) (.op (.ldn 12 v) fun v_4 => .op (.call n_laws_toConf [v_4]) fun v_5 => .op (.call n_spec_ConfOk [v_5]) fun v_6 => .op (.ldn 12 v) fun v_7 => .op (.call n_laws_toConf [v_7]) fun v_8 => .op (.alloc [AV.int .i64 0, AV.int .i64 0, AV.int .i64 0, AV.int .i64 0, AV.int .i64 0, AV.int .i64 0, AV.int .i64 0, AV.int .i64 0, AV.int .i64 0, AV.str ⟨#[]⟩, AV.str ⟨#[]⟩, AV.nils]) fun v_9 => .op (.st 12 v_9 v_8) fun v_10 => .op (.ldn 12 v_9) fun v_11 => .op (.call n_impl_ConfOk [v_11]) fun v_12 => .op (.bin 2 .neq v_12 v_6) fun v_13 => .ite v_13 (.fin [.val (AV.bool false)]) (.op (.ldn 12 v_9) fun v_14 => .op (.ldn 12 v) fun v => .op (.call n_laws_toConf [v]) fun v => .chk (.ldn 12 v_9) v_14 (.op (.call n_laws_eqConf [v_14, v]) fun v => .op (.una .not v) fun v => .ite v (.fin [.val (AV.bool false)]) (.fin [.val (AV.bool true)]))))
theorem c_laws_FnExactConfOk (x0 : AV) {h : AH} {R : AV → AH → Prop} (g : (p_laws_FnExactConfOk x0).awp Try.prog h fun t vs h' => t = 1 ∧ ∃ v, vs = [v] ∧ R v h') : ACalls Try.prog n_laws_FnExactConfOk [x0] h R :=
  acalls_of follows Try.func3 (by kernel_rfl) (by kernel_rfl) [] (fun r => if r = 10 then [(0, []), (1, []), (2, [0]), (3, []), (4, [])] else []) (show trF Try.prog Try.f3 _ _ [x0] = p_laws_FnExactConfOk x0 by kernel_rfl) g
end
theorem law_FnExactConfOk {h : AH} {cs0 : List AV} {x0 : Conf} {F0 : List Nat} (r0 : Cel.rep h x0 cs0 F0) (k0 : Cel.ok x0) : RCalls Try.prog n_laws_FnExactConfOk [.agg cs0] h (.bool true) := by
  obtain ⟨u0_0, rfl, q0_0⟩ := r0
  refine reader (c_laws_FnExactConfOk _) (by simp only [old]) ?_
  unfold p_laws_FnExactConfOk
  (repeat' first|refine vs ?_|(refine br ?_ ?_<;>intro _<;>try(exfalso;first|omega|contradiction))|((with_reducible refine g_callf n_laws_szConf ?_);(refine aw_sz (s_laws_szConf _ (by assumption) _ _ _ _ ⟨_, rfl, slr_auto⟩ om_auto om_auto) (fun _ => ?_) (fun _ => ?_)))|((with_reducible refine g_callf n_laws_toConf ?_);(refine aw_call (s_laws_toConf _ om_auto _ _ _ ⟨_, rfl, slr_auto⟩) ?_; rintro _ _ ⟨e_, _, _, rfl, ⟨_, rfl, _⟩, _⟩; have n_ := e_.1; (try simp only [push_n, upd_n] at n_)))|((with_reducible refine g_callf n_spec_ConfOk ?_);refine aw_rcall (s_spec_ConfOk k0.2.2.2.2.2.2.2 om_auto slr_auto) ?_)|((with_reducible refine g_callf n_impl_ConfOk ?_);refine aw_rcall (s_impl_ConfOk k0.2.2.2.2.2.2.2 slr_auto) ?_)|((with_reducible refine g_callf n_laws_eqConf ?_);refine aw_rcall (s_laws_eqConf _ _ _ _ _ _ ⟨_, rfl, slr_auto⟩ ⟨_, rfl, slr_auto⟩) ?_)|((with_reducible refine g_idx ?_);((first|refine ix ?_|refine ixi ?_|(refine ixg ?_;intro _ _)|(refine ixgi ?_;intro _ _));first|rintro _ _ _ _ _ ⟨rfl,rfl⟩ _|rintro _ _ _ _ _ ⟨_,rfl,_⟩ _|rintro _ _ _ _ _ ⟨_,_,_,_,rfl,rfl,_,_⟩ _|intro _ _ _ _ _ _ _))|(refine sx ?_;intro _ _)|((with_reducible refine g_awp ?_);simp only [g0,g1,g2]))
  all_goals exact pb rfl
end Go.Proofs.Ytienckhjfcplcaa
