
/- The law FnExactHeldBytes, walked. Written by mkx.py. -/
import Derived.Test.YtjikmaajdpcnhaaW11
import Derived.Test.YtjikmaajdpcnhaaLStripe
set_option linter.unusedSimpArgs false
set_option linter.unusedVariables false
set_option maxHeartbeats 1000000
namespace Go.Proofs.Ytjikmaajdpcnhaa
open Go Go.Ab
section
/- laws.FnExactHeldBytes -/
def p_laws_FnExactHeldBytes (x0 : AV) : Prog := .op (.call n_laws_szStripeS [x0, AV.int .i64 1048576]) fun v1 => .op (.bin 0 .lss v1 (AV.int .i64 0)) fun v2 => .ite v2 (.fin [.val (AV.bool true)]) (.op (.call n_laws_toStripeS [x0]) fun v3 => .op (.call n_spec_HeldBytes [v3]) fun v4 => .op (.call n_laws_toStripeS [x0]) fun v5 => .op (.call n_impl_HeldBytes [v5]) fun v6 => .op (.bin 0 .neq v6 v4) fun v7 => .ite v7 (.fin [.val (AV.bool false)]) (.op (.call n_laws_toStripeS [x0]) fun v8 => .op (.call n_laws_eqStripeS [v5, v8]) fun v9 => .op (.una .not v9) fun v10 => .ite v10 (.fin [.val (AV.bool false)]) (.fin [.val (AV.bool true)])))
theorem c_laws_FnExactHeldBytes (x0 : AV) {h : AH} {R : AV → AH → Prop} (g : (p_laws_FnExactHeldBytes x0).awp Try.prog h fun t vs h' => t = 1 ∧ ∃ v, vs = [v] ∧ R v h') : ACalls Try.prog n_laws_FnExactHeldBytes [x0] h R :=
  acalls_of follows Try.func6 (by kernel_rfl) (by kernel_rfl) [] (fun _ => []) (show trF Try.prog Try.f6 _ _ [x0] = p_laws_FnExactHeldBytes x0 by kernel_rfl) g
end
theorem law_FnExactHeldBytes {h : AH} {v0 : AV} {x0 : List Stripe} {F0 : List Nat} (r0 : SlRep h v0 x0 F0) (k0 : ∀ x ∈ x0, Cel.ok x) : RCalls Try.prog n_laws_FnExactHeldBytes [v0] h (.bool true) := by
  refine reader (c_laws_FnExactHeldBytes _) (by simp only [old]) ?_
  unfold p_laws_FnExactHeldBytes
  (repeat' first|refine vs ?_|(refine br ?_ ?_<;>intro _<;>try(exfalso;first|omega|contradiction))|((with_reducible refine g_callf n_laws_szStripeS ?_);(refine aw_sz (s_laws_szStripeS _ (by assumption) _ _ _ _ slr_auto om_auto om_auto) (fun _ => ?_) (fun _ => ?_)))|((with_reducible refine g_callf n_laws_toStripeS ?_);(refine aw_call (copy_r s_laws_toStripeS slr_auto om_auto) ?_; rintro _ _ ⟨e_, _, _, _⟩; have n_ := e_.1; (try simp only [push_n, upd_n] at n_)))|((with_reducible refine g_callf n_spec_HeldBytes ?_);refine aw_rcall (s_spec_HeldBytes (l := x0) om_auto slr_auto) ?_)|((with_reducible refine g_callf n_impl_HeldBytes ?_);refine aw_rcall (s_impl_HeldBytes (l := x0) om_auto slr_auto) ?_)|((with_reducible refine g_callf n_laws_eqStripeS ?_);refine aw_rcall (s_laws_eqStripeS _ _ _ _ _ _ slr_auto slr_auto) ?_)|((with_reducible refine g_idx ?_);((first|refine ix ?_|refine ixi ?_|(refine ixg ?_;intro _ _)|(refine ixgi ?_;intro _ _));first|rintro _ _ _ _ _ ⟨rfl,rfl⟩ _|rintro _ _ _ _ _ ⟨_,rfl,_⟩ _|rintro _ _ _ _ _ ⟨_,_,_,_,rfl,rfl,_,_⟩ _|intro _ _ _ _ _ _ _))|(refine sx ?_;intro _ _)|((with_reducible refine g_awp ?_);simp only [g0,g1,g2]))
  all_goals exact pb rfl
end Go.Proofs.Ytjikmaajdpcnhaa
