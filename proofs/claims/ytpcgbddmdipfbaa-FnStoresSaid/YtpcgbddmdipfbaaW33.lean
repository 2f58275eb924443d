/- Copies of deeds. -/
import Derived.Test.YtpcgbddmdipfbaaW10
set_option linter.unusedSimpArgs false
set_option linter.unusedVariables false
set_option maxHeartbeats 2000000
namespace Go.Proofs.Ytpcgbddmdipfbaa
open Go Go.Ab
section
/- spec.l15Copy -/
def p_spec_l15Copy (x0 : AV) : Prog := .op (.box x0) fun v1 => .op (.alloc z20_1ff) fun v2 => .op (.fad 2 v1) fun v3 => .op (.ldn 6 v3) fun v4 => .op (.call n_spec_l3Copy [v4]) fun v5 => .op (.fad 2 v1) fun v6 => .op (.st 6 v6 v5) fun v7 => .op (.ldn 20 v1) fun v8 => .op (.st 20 v2 v8) fun v9 => .fin [.cn 20 v2]
theorem c_spec_l15Copy (x0 : AV) : CC Try.prog n_spec_l15Copy [x0] (p_spec_l15Copy x0) := cc Try.func155 [] (fun _ => []) (by kernel_rfl)
end
theorem s_spec_l15Copy (x : Deed) (hs : Sz.sz x ≤ 67108864) : CopyX Deed Try.prog n_spec_l15Copy x := by
  rintro cs F h ⟨v0, rfl, r0⟩
  have hx2 : Sz.sz x = Sz.sz x.s := rfl
  refine c_spec_l15Copy _ ?_
  unfold p_spec_l15Copy
  (repeat' first|refine vs ?_|(refine br ?_ ?_<;>intro _<;>try(exfalso;first|omega|contradiction))|((with_reducible refine g_callf n_spec_l3Copy ?_);(refine aw_call (s_spec_l3Copy x.s (by omega) _ _ _ ⟨_, rfl, slr_auto⟩) ?_; rintro _ h2 ⟨e2, _, G2, rfl, ⟨w2, rfl, q2⟩, o2⟩; have n2 := e2.1; (try simp only [push_n, upd_n] at n2)))|((with_reducible refine g_idx ?_);((first|refine ix ?_|refine ixi ?_|(refine ixg ?_;intro _ _)|(refine ixgi ?_;intro _ _));first|rintro _ _ _ _ _ ⟨rfl,rfl⟩ _|rintro _ _ _ _ _ ⟨_,rfl,_⟩ _|rintro _ _ _ _ _ ⟨_,_,_,_,rfl,rfl,_,_⟩ _|intro _ _ _ _ _ _ _))|(refine sx ?_;intro _ _)|((with_reducible refine g_awp ?_);simp only [g0,g1,g2]))
  exact ⟨rfl, _, rfl, ext_auto, _, _, rfl, ⟨_, rfl, slr_auto⟩, ol_auto⟩
end Go.Proofs.Ytpcgbddmdipfbaa
