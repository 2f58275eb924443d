/- The law FnExactTrailAt, walked. Written by mkx.py. -/
import Derived.Test.YtjjaefhldldpkaaW5
import Derived.Test.YtjjaefhldldpkaaLTrail
set_option linter.unusedSimpArgs false
set_option linter.unusedVariables false
set_option maxHeartbeats 1000000
namespace Go.Proofs.Ytjjaefhldldpkaa
open Go Go.Ab
section
/- laws.FnExactTrailAt -/
def p_laws_FnExactTrailAt (x0 x1 : AV) : Prog := .op (.call n_laws_szTrailS [x0, AV.int .i64 1048576]) fun v => .op (.bin 0 .lss v (AV.int .i64 0)) fun v => .ite v (.fin [.val (AV.bool true)]) (.op (.call n_laws_toTrailS [x0]) fun v => .op (.call n_spec_TrailAt [v, x1]) fun v => .op (.call n_laws_toTrailS [x0]) fun v_1 => .op (.call n_impl_TrailAt [v_1, x1]) fun v_2 => .op (.bin 0 .neq v_2 v) fun v => .ite v (.fin [.val (AV.bool false)]) (.op (.call n_laws_toTrailS [x0]) fun v => .op (.call n_laws_eqTrailS [v_1, v]) fun v => .op (.una .not v) fun v => .ite v (.fin [.val (AV.bool false)]) (.fin [.val (AV.bool true)])))
theorem c_laws_FnExactTrailAt (x0 x1 : AV) {h : AH} {R : AV → AH → Prop} (g : (p_laws_FnExactTrailAt x0 x1).awp Try.prog h fun t vs h' => t = 1 ∧ ∃ v, vs = [v] ∧ R v h') : ACalls Try.prog n_laws_FnExactTrailAt [x0, x1] h R :=
  acalls_of follows Try.func12 (by kernel_rfl) (by kernel_rfl) [] (fun _ => []) (show trF Try.prog Try.f12 _ _ [x0, x1] = p_laws_FnExactTrailAt x0 x1 by kernel_rfl) g
end
theorem law_FnExactTrailAt {h : AH} {v0 : AV} {x0 : List Trail} {F0 : List Nat} (r0 : SlRep h v0 x0 F0) (k0 : ∀ x ∈ x0, Cel.ok x) {n1 : Int} (k1 : rng n1) : RCalls Try.prog n_laws_FnExactTrailAt [v0, .int .i64 n1] h (.bool true) := by
  refine reader (c_laws_FnExactTrailAt _ _) (by simp only [old]) ?_
  unfold p_laws_FnExactTrailAt
  (repeat' first|refine vs ?_|(refine br ?_ ?_<;>intro _<;>try(exfalso;first|omega|contradiction))|((with_reducible refine g_callf n_laws_szTrailS ?_);(refine aw_sz (s_laws_szTrailS _ (by assumption) _ _ _ _ slr_auto om_auto om_auto) (fun _ => ?_) (fun _ => ?_)))|((with_reducible refine g_callf n_laws_toTrailS ?_);(refine aw_call (copy_r s_laws_toTrailS slr_auto om_auto) ?_; rintro _ _ ⟨e_, _, _, _⟩; have n_ := e_.1; (try simp only [push_n, upd_n] at n_)))|((with_reducible refine g_callf n_spec_TrailAt ?_);refine aw_rcall (s_spec_TrailAt slr_auto) ?_)|((with_reducible refine g_callf n_impl_TrailAt ?_);refine aw_rcall (s_impl_TrailAt slr_auto) ?_)|((with_reducible refine g_callf n_laws_eqTrailS ?_);refine aw_rcall (s_laws_eqTrailS _ _ _ _ _ _ slr_auto slr_auto) ?_)|((with_reducible refine g_idx ?_);((first|refine ix ?_|refine ixi ?_|(refine ixg ?_;intro _ _)|(refine ixgi ?_;intro _ _));first|rintro _ _ _ _ _ ⟨rfl,rfl⟩ _|rintro _ _ _ _ _ ⟨_,rfl,_⟩ _|rintro _ _ _ _ _ ⟨_,_,_,_,rfl,rfl,_,_⟩ _|intro _ _ _ _ _ _ _))|(refine sx ?_;intro _ _))
  all_goals exact pb rfl
end Go.Proofs.Ytjjaefhldldpkaa
