
/- Timer: marks. Written by mkm.py. -/
import Derived.Test.YtideefohbkhhhaaM0
set_option linter.unusedSimpArgs false
set_option linter.unusedVariables false
set_option maxHeartbeats 1000000
namespace Go.Proofs.Ytideefohbkhhhaa
open Go Go.Ab
section
/- laws.markTimerS -/
def p_laws_markTimerS (x0 x1 : AV) : Prog := .loop [x1, AV.int .i64 0] (fun vs1 => .op (.len 0 x0) fun v3 => .op (.bin 0 .lss (g vs1 1) v3) fun v4 => .ite v4 (.op (.idx 3 x0 (g vs1 1)) fun v5 => .op (.fad 0 v5) fun v6 => .op (.st 1 v6 (g vs1 0)) fun v7 => .op (.bin 0 .add (g vs1 0) (AV.int .i64 1)) fun v8 => .op (.idx 3 x0 (g vs1 1)) fun v9 => .op (.fad 1 v9) fun v10 => .op (.st 1 v10 v8) fun v11 => .op (.bin 0 .add v8 (AV.int .i64 1)) fun v12 => .op (.idx 3 x0 (g vs1 1)) fun v13 => .op (.fad 2 v13) fun v14 => .op (.st 1 v14 v12) fun v15 => .op (.bin 0 .add v12 (AV.int .i64 1)) fun v16 => .op (.bin 0 .add (g vs1 1) (AV.int .i64 1)) fun v17 => .leaf 0 [v16, v17]) (.leaf 2 [g vs1 0, g vs1 1])) fun t2 vs1 => tsel t2 1 (.leaf 1 vs1) (tsel t2 2 (.fin [.val (g vs1 0)]) .bad)
theorem c_laws_markTimerS (x0 x1 : AV) : CC Try.prog n_laws_markTimerS [x0, x1] (p_laws_markTimerS x0 x1) := cc Try.func59 [0, 1, 5] (fun _ => []) (by kernel_rfl)
/- laws.heldTimerS -/
def p_laws_heldTimerS (x0 x1 : AV) : Prog := .loop [x1, AV.int .i64 0] (fun vs1 => .op (.len 0 x0) fun v3 => .op (.bin 0 .lss (g vs1 1) v3) fun v4 => .ite v4 (.op (.idx 3 x0 (g vs1 1)) fun v5 => .op (.fad 0 v5) fun v6 => .op (.ld1 v6) fun v7 => .op (.bin 0 .neq v7 (g vs1 0)) fun v8 => .ite v8 (.fin [.val (AV.int .i64 (-1))]) (.op (.bin 0 .add (g vs1 0) (AV.int .i64 1)) fun v9 => .op (.idx 3 x0 (g vs1 1)) fun v10 => .op (.fad 1 v10) fun v11 => .op (.ld1 v11) fun v12 => .op (.bin 0 .neq v12 v9) fun v13 => .ite v13 (.fin [.val (AV.int .i64 (-1))]) (.op (.bin 0 .add v9 (AV.int .i64 1)) fun v14 => .op (.idx 3 x0 (g vs1 1)) fun v15 => .op (.fad 2 v15) fun v16 => .op (.ld1 v16) fun v17 => .op (.bin 0 .neq v17 v14) fun v18 => .ite v18 (.fin [.val (AV.int .i64 (-1))]) (.op (.bin 0 .add v14 (AV.int .i64 1)) fun v19 => .op (.bin 0 .add (g vs1 1) (AV.int .i64 1)) fun v20 => .leaf 0 [v19, v20])))) (.leaf 2 [g vs1 0, g vs1 1])) fun t2 vs1 => tsel t2 1 (.leaf 1 vs1) (tsel t2 2 (.fin [.val (g vs1 0)]) .bad)
theorem c_laws_heldTimerS (x0 x1 : AV) : CC Try.prog n_laws_heldTimerS [x0, x1] (p_laws_heldTimerS x0 x1) := cc Try.func67 [0, 1, 5] (fun _ => []) (by kernel_rfl)
end
theorem s_laws_markTimerS : MarkS Ab.Timer Try.prog n_laws_markTimerS := fun xs v F n m h r o h0 h1 => c_laws_markTimerS _ _ (Prog.awp_mono _ (pMark_spec (w := 3) rfl (ss := [([0], .i), ([1], .i), ([2], .i)]) (fun x _ => by simp [MOk, Fld.f]) r o h0 h1) fun _ _ _ x => x)
theorem s_laws_heldTimerS : HeldS Ab.Timer Try.prog n_laws_heldTimerS := fun xs v F m h r h0 h1 => reader (c_laws_heldTimerS _ _) (by simp only [old]) (pHeld_spec (w := 3) rfl (ss := [([0], .i), ([1], .i), ([2], .i)]) (fun x _ => by simp [HOk, Fld.f]) r h0 h1)
end Go.Proofs.Ytideefohbkhhhaa
