
/- Int: marks. Written by mkm.py. -/
import Derived.Test.YtpcgbddmdipfbaaM0
set_option linter.unusedSimpArgs false
set_option linter.unusedVariables false
set_option maxHeartbeats 1000000
namespace Go.Proofs.Ytpcgbddmdipfbaa
open Go Go.Ab
section
/- laws.markIntS -/
def p_laws_markIntS (x0 x1 : AV) : Prog := .loop [x1, AV.int .i64 0] (fun vs1 => .op (.len 0 x0) fun v3 => .op (.bin 0 .lss (g vs1 1) v3) fun v4 => .ite v4 (.op (.idx 1 x0 (g vs1 1)) fun v5 => .op (.st 1 v5 (g vs1 0)) fun v6 => .op (.bin 0 .add (g vs1 0) (AV.int .i64 1)) fun v7 => .op (.bin 0 .add (g vs1 1) (AV.int .i64 1)) fun v8 => .leaf 0 [v7, v8]) (.leaf 2 [g vs1 0, g vs1 1])) fun t2 vs1 => tsel t2 1 (.leaf 1 vs1) (tsel t2 2 (.fin [.val (g vs1 0)]) .bad)
theorem c_laws_markIntS (x0 x1 : AV) : CC Try.prog n_laws_markIntS [x0, x1] (p_laws_markIntS x0 x1) := cc Try.func18 [0, 1, 5] (fun _ => []) (by kernel_rfl)
/- laws.heldIntS -/
def p_laws_heldIntS (x0 x1 : AV) : Prog := .loop [x1, AV.int .i64 0] (fun vs1 => .op (.len 0 x0) fun v3 => .op (.bin 0 .lss (g vs1 1) v3) fun v4 => .ite v4 (.op (.idx 1 x0 (g vs1 1)) fun v5 => .op (.ld1 v5) fun v6 => .op (.bin 0 .neq v6 (g vs1 0)) fun v7 => .ite v7 (.fin [.val (AV.int .i64 (-1))]) (.op (.bin 0 .add (g vs1 0) (AV.int .i64 1)) fun v8 => .op (.bin 0 .add (g vs1 1) (AV.int .i64 1)) fun v9 => .leaf 0 [v8, v9])) (.leaf 2 [g vs1 0, g vs1 1])) fun t2 vs1 => tsel t2 1 (.leaf 1 vs1) (tsel t2 2 (.fin [.val (g vs1 0)]) .bad)
theorem c_laws_heldIntS (x0 x1 : AV) : CC Try.prog n_laws_heldIntS [x0, x1] (p_laws_heldIntS x0 x1) := cc Try.func19 [0, 1, 5] (fun _ => []) (by kernel_rfl)
end
theorem s_laws_markIntS : MarkS Int Try.prog n_laws_markIntS := fun xs v F n m h r o h0 h1 => c_laws_markIntS _ _ (Prog.awp_mono _ (pMark_spec (w := 1) rfl (ss := [([], .i)]) (fun x _ => by simp [MOk, Fld.f]) r o h0 h1) fun _ _ _ x => x)
theorem s_laws_heldIntS : HeldS Int Try.prog n_laws_heldIntS := fun xs v F m h r h0 h1 => reader (c_laws_heldIntS _ _) (by simp only [old]) (pHeld_spec (w := 1) rfl (ss := [([], .i)]) (fun x _ => by simp [HOk, Fld.f]) r h0 h1)
end Go.Proofs.Ytpcgbddmdipfbaa
