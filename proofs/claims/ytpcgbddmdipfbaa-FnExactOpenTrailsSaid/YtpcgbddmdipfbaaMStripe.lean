
/- Stripe: marks. Written by mkm.py. -/
import Derived.Test.YtpcgbddmdipfbaaMTrail
set_option linter.unusedSimpArgs false
set_option linter.unusedVariables false
set_option maxHeartbeats 1000000
namespace Go.Proofs.Ytpcgbddmdipfbaa
open Go Go.Ab
section
/- laws.markStripeS -/
def p_laws_markStripeS (x0 x1 : AV) : Prog := .loop [x1, AV.int .i64 0] (fun vs1 => .op (.len 0 x0) fun v3 => .op (.bin 0 .lss (g vs1 1) v3) fun v4 => .ite v4 (.op (.idx 2 x0 (g vs1 1)) fun v5 => .op (.fad 0 v5) fun v6 => .op (.st 1 v6 (g vs1 0)) fun v7 => .op (.bin 0 .add (g vs1 0) (AV.int .i64 1)) fun v8 => .op (.idx 2 x0 (g vs1 1)) fun v9 => .op (.fad 1 v9) fun v10 => .op (.ld1 v10) fun v11 => .op (.call n_laws_markTrailS [v11, v8]) fun v12 => .op (.bin 0 .add (g vs1 1) (AV.int .i64 1)) fun v13 => .leaf 0 [v12, v13]) (.leaf 2 [g vs1 0, g vs1 1])) fun t2 vs1 => tsel t2 1 (.leaf 1 vs1) (tsel t2 2 (.fin [.val (g vs1 0)]) .bad)
theorem c_laws_markStripeS (x0 x1 : AV) : CC Try.prog n_laws_markStripeS [x0, x1] (p_laws_markStripeS x0 x1) := cc Try.func36 [0, 1, 5] (fun _ => []) (by kernel_rfl)
end
theorem s_laws_markStripeS : MarkS Stripe Try.prog n_laws_markStripeS := fun xs v F n m h r o h0 h1 => c_laws_markStripeS _ _ (Prog.awp_mono _ (pMark_spec (w := 2) rfl (ss := [([0], .i), ([1], .l n_laws_markTrailS)]) (fun x _ => by simp [MOk, Fld.f, s_laws_markTrailS.x]) r o h0 h1) fun _ _ _ x => x)
end Go.Proofs.Ytpcgbddmdipfbaa
