
/- Task: copies, comparisons, sizes. Written by mkl.py. -/
import Derived.Test.YtideefohbkhhhaaGreatLTask
set_option linter.unusedSimpArgs false
set_option linter.unusedVariables false
set_option maxHeartbeats 1000000
namespace Go.Proofs.YtideefohbkhhhaaGreat
open Go Go.Ab
section
/- laws.toTaskS -/
def p_laws_toTaskS (x0 : AV) : Prog := .op (.len 0 x0) fun v1 => .op (.mksl 12 128 z12_f83 v1 v1) fun v2 => .loop [AV.int .i64 0] (fun vs3 => .op (.len 0 x0) fun v5 => .op (.bin 0 .lss (g vs3 0) v5) fun v6 => .ite v6 (.op (.idx 12 x0 (g vs3 0)) fun v7 => .op (.ldn 12 v7) fun v8 => .op (.call n_laws_toTask [v8]) fun v9 => .op (.idx 12 v2 (g vs3 0)) fun v10 => .op (.st 12 v10 v9) fun v11 => .op (.bin 0 .add (g vs3 0) (AV.int .i64 1)) fun v12 => .leaf 0 [v12]) (.leaf 2 [g vs3 0])) fun t4 vs3 => tsel t4 1 (.leaf 1 vs3) (tsel t4 2 (.fin [.val v2]) .bad)
theorem c_laws_toTaskS (x0 : AV) : CC Tryz.prog n_laws_toTaskS [x0] (p_laws_toTaskS x0) := cc Tryz.func62 [0, 3, 4] (fun _ => []) (by kernel_rfl)
/- laws.eqTaskS -/
def p_laws_eqTaskS (x0 x1 : AV) : Prog := .op (.len 0 x0) fun v1 => .op (.len 0 x1) fun v2 => .op (.bin 0 .neq v1 v2) fun v3 => .ite v3 (.fin [.val (AV.bool false)]) (.loop [AV.int .i64 0] (fun vs4 => .op (.len 0 x0) fun v6 => .op (.bin 0 .lss (g vs4 0) v6) fun v7 => .ite v7 (.op (.idx 12 x0 (g vs4 0)) fun v8 => .op (.ldn 12 v8) fun v9 => .op (.idx 12 x1 (g vs4 0)) fun v10 => .op (.ldn 12 v10) fun v11 => .op (.call n_laws_eqTask [v9, v11]) fun v12 => .op (.una .not v12) fun v13 => .ite v13 (.fin [.val (AV.bool false)]) (.op (.bin 0 .add (g vs4 0) (AV.int .i64 1)) fun v14 => .leaf 0 [v14])) (.leaf 2 [g vs4 0])) fun t5 vs4 => tsel t5 1 (.leaf 1 vs4) (tsel t5 2 (.fin [.val (AV.bool true)]) .bad))
theorem c_laws_eqTaskS (x0 x1 : AV) : CC Tryz.prog n_laws_eqTaskS [x0, x1] (p_laws_eqTaskS x0 x1) := cc Tryz.func74 [0, 1, 5] (fun r => if r = 6 then [(0, []), (1, []), (2, []), (3, []), (4, []), (5, []), (6, []), (7, []), (8, []), (9, [])] else []) (by kernel_rfl)
/- laws.szTaskS -/
def p_laws_szTaskS (x0 x1 : AV) : Prog := .op (.len 0 x0) fun v1 => .op (.bin 0 .sub x1 v1) fun v2 => .op (.bin 0 .lss v2 (AV.int .i64 0)) fun v3 => .ite v3 (.fin [.val (AV.int .i64 (-1))]) (.loop [v2, AV.int .i64 0] (fun vs4 => .op (.len 0 x0) fun v6 => .op (.bin 0 .lss (g vs4 1) v6) fun v7 => .ite v7 (.op (.idx 12 x0 (g vs4 1)) fun v8 => .op (.ldn 12 v8) fun v9 => .op (.call n_laws_szTask [v9, g vs4 0]) fun v10 => .op (.bin 0 .lss v10 (AV.int .i64 0)) fun v11 => .ite v11 (.fin [.val (AV.int .i64 (-1))]) (.op (.bin 0 .add (g vs4 1) (AV.int .i64 1)) fun v12 => .leaf 0 [v10, v12])) (.leaf 2 [g vs4 0, g vs4 1])) fun t5 vs4 => tsel t5 1 (.leaf 1 vs4) (tsel t5 2 (.fin [.val (g vs4 0)]) .bad))
theorem c_laws_szTaskS (x0 x1 : AV) : CC Tryz.prog n_laws_szTaskS [x0, x1] (p_laws_szTaskS x0 x1) := cc Tryz.func42 [0, 1, 5] (fun _ => []) (by kernel_rfl)
end
theorem s_laws_toTaskS (xs : List Task) (hs : xs.length + szs xs ≤ 1048576) : CopyL Tryz.prog n_laws_toTaskS xs := copyL_of rfl rfl (by decide) hs (fun x hx => s_laws_toTask x hx) (fun g => c_laws_toTaskS _ g)
theorem s_laws_eqTaskS : EqS Task Tryz.prog n_laws_eqTaskS := fun xs v v' F F' h r r' => reader (c_laws_eqTaskS _ _) (by simp only [old]) (eqS_spec rfl s_laws_eqTask r r')
theorem s_laws_szTaskS : SzL Task Tryz.prog n_laws_szTaskS := fun xs ok v F b h r h0 h1 => reader (c_laws_szTaskS _ _) (by simp only [old]) (szS_spec rfl s_laws_szTask ok r h0 h1)
end Go.Proofs.YtideefohbkhhhaaGreat
