
/- The law FnExactTaskOk, walked. Written by mkx.py. -/
import Derived.Test.YtjikmaajdpcnhaaW16
import Derived.Test.YtjikmaajdpcnhaaLTask
set_option linter.unusedSimpArgs false
set_option linter.unusedVariables false
set_option maxHeartbeats 1000000
namespace Go.Proofs.Ytjikmaajdpcnhaa
open Go Go.Ab
section
/- laws.FnExactTaskOk -/
def p_laws_FnExactTaskOk (x0 x1 : AV) : Prog := .op (.box x0) fun v1 => .op (.ldn 12 v1) fun v2 => .op (.call n_laws_szTask [v2, AV.int .i64 1048576]) fun v3 => .op (.bin 0 .lss v3 (AV.int .i64 0)) fun v4 => .ite v4 (.fin [.val (AV.bool true)]) (.op (.ldn 12 v1) fun v5 => .op (.call n_laws_toTask [v5]) fun v6 => .op (.call n_spec_TaskOk [v6, x1]) fun v7 => .op (.ldn 12 v1) fun v8 => .op (.call n_laws_toTask [v8]) fun v9 => .op (.alloc [AV.int .i64 0, AV.int .i64 0, AV.int .i64 0, AV.int .i64 0, AV.int .i64 0, AV.int .i64 0, AV.bool false, AV.nils, AV.int .i64 0, AV.int .i64 0, AV.nils, AV.int .i64 0]) fun v10 => .op (.st 12 v10 v9) fun v11 => .op (.ldn 12 v10) fun v12 => .op (.call n_impl_TaskOk [v12, x1]) fun v13 => .op (.bin 2 .neq v13 v7) fun v14 => .ite v14 (.fin [.val (AV.bool false)]) (.op (.ldn 12 v10) fun v15 => .op (.ldn 12 v1) fun v16 => .op (.call n_laws_toTask [v16]) fun v17 => .chk (.ldn 12 v10) v15 (.op (.call n_laws_eqTask [v15, v17]) fun v18 => .op (.una .not v18) fun v19 => .ite v19 (.fin [.val (AV.bool false)]) (.fin [.val (AV.bool true)]))))
theorem c_laws_FnExactTaskOk (x0 x1 : AV) {h : AH} {R : AV → AH → Prop} (g : (p_laws_FnExactTaskOk x0 x1).awp Try.prog h fun t vs h' => t = 1 ∧ ∃ v, vs = [v] ∧ R v h') : ACalls Try.prog n_laws_FnExactTaskOk [x0, x1] h R :=
  acalls_of follows Try.func7 (by kernel_rfl) (by kernel_rfl) [] (fun r => if r = 10 then [(0, []), (1, []), (2, [0]), (3, []), (4, [])] else []) (show trF Try.prog Try.f7 _ _ [x0, x1] = p_laws_FnExactTaskOk x0 x1 by kernel_rfl) g
end
theorem law_FnExactTaskOk {h : AH} {cs0 : List AV} {x0 : Task} {F0 : List Nat} (r0 : Cel.rep h x0 cs0 F0) (k0 : Cel.ok x0) {n1 : Int} (k1 : rng n1) : RCalls Try.prog n_laws_FnExactTaskOk [.agg cs0, .int .i64 n1] h (.bool true) := by
  obtain ⟨u0_0, u0_1, G0_0, G0_1, rfl, rfl, q0_0, q0_1⟩ := r0
  refine reader (c_laws_FnExactTaskOk _ _) (by simp only [old]) ?_
  unfold p_laws_FnExactTaskOk
  (repeat' first|refine vs ?_|(refine br ?_ ?_<;>intro _<;>try(exfalso;first|omega|contradiction))|((with_reducible refine g_callf n_laws_szTask ?_);(refine aw_sz (s_laws_szTask _ (by assumption) _ _ _ _ ⟨_, _, _, _, rfl, rfl, slr_auto, slr_auto⟩ om_auto om_auto) (fun _ => ?_) (fun _ => ?_)))|((with_reducible refine g_callf n_laws_toTask ?_);(refine aw_call (s_laws_toTask _ om_auto _ _ _ ⟨_, _, _, _, rfl, rfl, slr_auto, slr_auto⟩) ?_; rintro _ _ ⟨e_, _, _, rfl, ⟨_, _, _, _, rfl, rfl, _, _⟩, _⟩; have n_ := e_.1; (try simp only [push_n, upd_n] at n_)))|((with_reducible refine g_callf n_spec_TaskOk ?_);refine aw_rcall (s_spec_TaskOk k0 om_auto slr_auto slr_auto) ?_)|((with_reducible refine g_callf n_impl_TaskOk ?_);refine aw_rcall (s_impl_TaskOk k0 om_auto slr_auto slr_auto) ?_)|((with_reducible refine g_callf n_laws_eqTask ?_);refine aw_rcall (s_laws_eqTask _ _ _ _ _ _ ⟨_, _, _, _, rfl, rfl, slr_auto, slr_auto⟩ ⟨_, _, _, _, rfl, rfl, slr_auto, slr_auto⟩) ?_)|((with_reducible refine g_idx ?_);((first|refine ix ?_|refine ixi ?_|(refine ixg ?_;intro _ _)|(refine ixgi ?_;intro _ _));first|rintro _ _ _ _ _ ⟨rfl,rfl⟩ _|rintro _ _ _ _ _ ⟨_,rfl,_⟩ _|rintro _ _ _ _ _ ⟨_,_,_,_,rfl,rfl,_,_⟩ _|intro _ _ _ _ _ _ _))|(refine sx ?_;intro _ _)|((with_reducible refine g_awp ?_);simp only [g0,g1,g2]))
  all_goals exact pb rfl
end Go.Proofs.Ytjikmaajdpcnhaa
