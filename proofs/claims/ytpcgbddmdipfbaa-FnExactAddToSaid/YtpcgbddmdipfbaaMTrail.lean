/- Trail: marks. Written by mkm.py. -/
import Derived.Test.YtpcgbddmdipfbaaMSpan
set_option linter.unusedSimpArgs false
set_option linter.unusedVariables false
set_option maxHeartbeats 1000000
namespace Go.Proofs.Ytpcgbddmdipfbaa
open Go Go.Ab
section
/- laws.markTrailS -/
def p_laws_markTrailS (x0 x1 : AV) : Prog := .loop [x1, AV.int .i64 0] (fun vs1 => .op (.len 0 x0) fun v3 => .op (.bin 0 .lss (g vs1 1) v3) fun v4 => .ite v4 (.op (.idx 4 x0 (g vs1 1)) fun v5 => .op (.fad 0 v5) fun v6 => .op (.st 1 v6 (g vs1 0)) fun v7 => .op (.bin 0 .add (g vs1 0) (AV.int .i64 1)) fun v8 => .op (.idx 4 x0 (g vs1 1)) fun v9 => .op (.fad 1 v9) fun v10 => .op (.st 1 v10 v8) fun v11 => .op (.bin 0 .add v8 (AV.int .i64 1)) fun v12 => .op (.idx 4 x0 (g vs1 1)) fun v13 => .op (.fad 2 v13) fun v14 => .op (.st 1 v14 v12) fun v15 => .op (.bin 0 .add v12 (AV.int .i64 1)) fun v16 => .op (.idx 4 x0 (g vs1 1)) fun v17 => .op (.fad 3 v17) fun v18 => .op (.ld1 v18) fun v19 => .op (.call n_laws_markSpanS [v19, v16]) fun v20 => .op (.bin 0 .add (g vs1 1) (AV.int .i64 1)) fun v21 => .leaf 0 [v20, v21]) (.leaf 2 [g vs1 0, g vs1 1])) fun t2 vs1 => tsel t2 1 (.leaf 1 vs1) (tsel t2 2 (.fin [.val (g vs1 0)]) .bad)
theorem c_laws_markTrailS (x0 x1 : AV) : CC Try.prog n_laws_markTrailS [x0, x1] (p_laws_markTrailS x0 x1) := cc Try.func28 [0, 1, 5] (fun _ => []) (by kernel_rfl)
/- laws.heldTrailS -/
def p_laws_heldTrailS (x0 x1 : AV) : Prog := .loop [x1, AV.int .i64 0] (fun vs1 => .op (.len 0 x0) fun v3 => .op (.bin 0 .lss (g vs1 1) v3) fun v4 => .ite v4 (.op (.idx 4 x0 (g vs1 1)) fun v5 => .op (.fad 0 v5) fun v6 => .op (.ld1 v6) fun v7 => .op (.bin 0 .neq v7 (g vs1 0)) fun v8 => .ite v8 (.fin [.val (AV.int .i64 (-1))]) (.op (.bin 0 .add (g vs1 0) (AV.int .i64 1)) fun v9 => .op (.idx 4 x0 (g vs1 1)) fun v10 => .op (.fad 1 v10) fun v11 => .op (.ld1 v11) fun v12 => .op (.bin 0 .neq v12 v9) fun v13 => .ite v13 (.fin [.val (AV.int .i64 (-1))]) (.op (.bin 0 .add v9 (AV.int .i64 1)) fun v14 => .op (.idx 4 x0 (g vs1 1)) fun v15 => .op (.fad 2 v15) fun v16 => .op (.ld1 v16) fun v17 => .op (.bin 0 .neq v17 v14) fun v18 => .ite v18 (.fin [.val (AV.int .i64 (-1))]) (.op (.bin 0 .add v14 (AV.int .i64 1)) fun v19 => .op (.idx 4 x0 (g vs1 1)) fun v20 => .op (.fad 3 v20) fun v21 => .op (.ld1 v21) fun v22 => .op (.call n_laws_heldSpanS [v22, v19]) fun v23 => .op (.bin 0 .lss v23 (AV.int .i64 0)) fun v24 => .ite v24 (.fin [.val (AV.int .i64 (-1))]) (.op (.bin 0 .add (g vs1 1) (AV.int .i64 1)) fun v25 => .leaf 0 [v23, v25]))))) (.leaf 2 [g vs1 0, g vs1 1])) fun t2 vs1 => tsel t2 1 (.leaf 1 vs1) (tsel t2 2 (.fin [.val (g vs1 0)]) .bad)
theorem c_laws_heldTrailS (x0 x1 : AV) : CC Try.prog n_laws_heldTrailS [x0, x1] (p_laws_heldTrailS x0 x1) := cc Try.func30 [0, 1, 5] (fun _ => []) (by kernel_rfl)
end
theorem s_laws_markTrailS : MarkS Trail Try.prog n_laws_markTrailS := fun xs v F n m h r o h0 h1 => c_laws_markTrailS _ _ (Prog.awp_mono _ (pMark_spec (w := 4) rfl (ss := [([0], .i), ([1], .i), ([2], .i), ([3], .l n_laws_markSpanS)]) (fun x _ => by simp [MOk, Fld.f, s_laws_markSpanS.x]) r o h0 h1) fun _ _ _ x => x)
theorem s_laws_heldTrailS : HeldS Trail Try.prog n_laws_heldTrailS := fun xs v F m h r h0 h1 => reader (c_laws_heldTrailS _ _) (by simp only [old]) (pHeld_spec (w := 4) rfl (ss := [([0], .i), ([1], .i), ([2], .i), ([3], .l n_laws_heldSpanS)]) (fun x _ => by simp [HOk, Fld.f, s_laws_heldSpanS.x]) r h0 h1)
end Go.Proofs.Ytpcgbddmdipfbaa
