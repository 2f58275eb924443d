/- The law FnExactSameItem, walked. Written by mkx.py. -/
import Derived.Test.YtjjaefhldldpkaaW5
import Derived.Test.YtjjaefhldldpkaaLItem
set_option linter.unusedSimpArgs false
set_option linter.unusedVariables false
set_option maxHeartbeats 1000000
namespace Go.Proofs.Ytjjaefhldldpkaa
open Go Go.Ab
section
/- laws.FnExactSameItem -/
def p_laws_FnExactSameItem (x0 x1 : AV) : Prog := .op (.box x0) fun v => .op (.box x1) fun v_1 => .op (.ldn 7 v) fun v_2 => .op (.call n_laws_szItem [v_2, AV.int .i64 1048576]) fun v_3 => .op (.bin 0 .lss v_3 (AV.int .i64 0)) fun v_4 => .ite v_4 (.fin [.val (AV.bool true)]) (.op (.ldn 7 v_1) fun v_5 => .op (.call n_laws_szItem [v_5, v_3]) fun v_6 => .op (.bin 0 .lss v_6 (AV.int .i64 0)) fun v_7 => .ite v_7 (.fin [.val (AV.bool true)]) (.op (.ldn 7 v) fun v_8 => .op (.ldn 7 v_1) fun v_9 => .op (.call n_laws_toItem [v_8]) fun v_10 => .chk (.ldn 7 v_1) v_9 (.op (.call n_laws_toItem [v_9]) fun v_11 => .op (.call n_spec_SameItem [v_10, v_11]) fun v_12 => .op (.ldn 7 v) fun v_13 => .op (.call n_laws_toItem [v_13]) fun v_14 => .op (.alloc [AV.int .i64 0, AV.int .i64 0, AV.int .i64 0, AV.int .i64 0, AV.int .i64 0, AV.bool false, AV.nils]) fun v_15 => .op (.st 7 v_15 v_14) fun v_16 => .op (.ldn 7 v_1) fun v_17 => .op (.call n_laws_toItem [v_17]) fun v_18 => .op (.alloc [AV.int .i64 0, AV.int .i64 0, AV.int .i64 0, AV.int .i64 0, AV.int .i64 0, AV.bool false, AV.nils]) fun v_19 => .op (.st 7 v_19 v_18) fun v_20 => .op (.ldn 7 v_15) fun v_21 => .op (.ldn 7 v_19) fun v_22 => .op (.call n_impl_SameItem [v_21, v_22]) fun v_23 => .op (.bin 2 .neq v_23 v_12) fun v_24 => .ite v_24 (.fin [.val (AV.bool false)]) (.op (.ldn 7 v_15) fun v_25 => .op (.ldn 7 v) fun v => .op (.call n_laws_toItem [v]) fun v => .chk (.ldn 7 v_15) v_25 (.op (.call n_laws_eqItem [v_25, v]) fun v => .op (.una .not v) fun v => .ite v (.fin [.val (AV.bool false)]) (.op (.ldn 7 v_19) fun v => .op (.ldn 7 v_1) fun v_26 => .op (.call n_laws_toItem [v_26]) fun v_27 => .chk (.ldn 7 v_19) v (.op (.call n_laws_eqItem [v, v_27]) fun v => .op (.una .not v) fun v => .ite v (.fin [.val (AV.bool false)]) (.fin [.val (AV.bool true)]))))))))
theorem c_laws_FnExactSameItem (x0 x1 : AV) {h : AH} {R : AV → AH → Prop} (g : (p_laws_FnExactSameItem x0 x1).awp Try.prog h fun t vs h' => t = 1 ∧ ∃ v, vs = [v] ∧ R v h') : ACalls Try.prog n_laws_FnExactSameItem [x0, x1] h R :=
  acalls_of follows Try.func5 (by kernel_rfl) (by kernel_rfl) [] (fun r => if r = 8 then [(0, []), (2, []), (1, [2]), (3, []), (4, []), (5, [])] else if r = 14 then [(0, []), (1, []), (2, [0]), (3, []), (4, [])] else if r = 16 then [(0, []), (1, []), (2, [0]), (3, []), (4, [])] else []) (show trF Try.prog Try.f5 _ _ [x0, x1] = p_laws_FnExactSameItem x0 x1 by kernel_rfl) g
end
theorem law_FnExactSameItem {h : AH} {cs0 : List AV} {x0 : Itm} {F0 : List Nat} (r0 : Cel.rep h x0 cs0 F0) (k0 : Cel.ok x0) {cs1 : List AV} {x1 : Itm} {F1 : List Nat} (r1 : Cel.rep h x1 cs1 F1) (k1 : Cel.ok x1) : RCalls Try.prog n_laws_FnExactSameItem [.agg cs0, .agg cs1] h (.bool true) := by
  obtain ⟨u0_0, rfl, q0_0⟩ := r0
  obtain ⟨u1_0, rfl, q1_0⟩ := r1
  refine reader (c_laws_FnExactSameItem _ _) (by simp only [old]) ?_
  unfold p_laws_FnExactSameItem
  (repeat' first|refine vs ?_|(refine br ?_ ?_<;>intro _<;>try(exfalso;first|omega|contradiction))|((with_reducible refine g_callf n_laws_szItem ?_);(refine aw_sz (s_laws_szItem _ (by assumption) _ _ _ _ ⟨_, rfl, slr_auto⟩ om_auto om_auto) (fun _ => ?_) (fun _ => ?_)))|((with_reducible refine g_callf n_laws_toItem ?_);(refine aw_call (s_laws_toItem _ om_auto _ _ _ ⟨_, rfl, slr_auto⟩) ?_; rintro _ _ ⟨e_, _, _, rfl, ⟨_, rfl, _⟩, _⟩; have n_ := e_.1; (try simp only [push_n, upd_n] at n_)))|((with_reducible refine g_callf n_spec_SameItem ?_);refine aw_rcall (s_spec_SameItem slr_auto slr_auto) ?_)|((with_reducible refine g_callf n_impl_SameItem ?_);refine aw_rcall (s_impl_SameItem slr_auto slr_auto) ?_)|((with_reducible refine g_callf n_laws_eqItem ?_);refine aw_rcall (s_laws_eqItem _ _ _ _ _ _ ⟨_, rfl, slr_auto⟩ ⟨_, rfl, slr_auto⟩) ?_)|((with_reducible refine g_idx ?_);((first|refine ix ?_|refine ixi ?_|(refine ixg ?_;intro _ _)|(refine ixgi ?_;intro _ _));first|rintro _ _ _ _ _ ⟨rfl,rfl⟩ _|rintro _ _ _ _ _ ⟨_,rfl,_⟩ _|rintro _ _ _ _ _ ⟨_,_,_,_,rfl,rfl,_,_⟩ _|intro _ _ _ _ _ _ _))|(refine sx ?_;intro _ _))
  all_goals exact pb rfl
end Go.Proofs.Ytjjaefhldldpkaa
