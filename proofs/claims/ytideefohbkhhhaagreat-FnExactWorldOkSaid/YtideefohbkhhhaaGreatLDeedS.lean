
/- Deed: copies, comparisons, sizes. Written by mkl.py. -/
import Derived.Test.YtideefohbkhhhaaGreatLDeed
set_option linter.unusedSimpArgs false
set_option linter.unusedVariables false
set_option maxHeartbeats 1000000
namespace Go.Proofs.YtideefohbkhhhaaGreat
open Go Go.Ab
section
/- laws.toDeedS -/
def p_laws_toDeedS (x0 : AV) : Prog := .op (.len 0 x0) fun v1 => .op (.mksl 20 168 z20_1ff v1 v1) fun v2 => .loop [AV.int .i64 0] (fun vs3 => .op (.len 0 x0) fun v5 => .op (.bin 0 .lss (g vs3 0) v5) fun v6 => .ite v6 (.op (.idx 20 x0 (g vs3 0)) fun v7 => .op (.ldn 20 v7) fun v8 => .op (.call n_laws_toDeed [v8]) fun v9 => .op (.idx 20 v2 (g vs3 0)) fun v10 => .op (.st 20 v10 v9) fun v11 => .op (.bin 0 .add (g vs3 0) (AV.int .i64 1)) fun v12 => .leaf 0 [v12]) (.leaf 2 [g vs3 0])) fun t4 vs3 => tsel t4 1 (.leaf 1 vs3) (tsel t4 2 (.fin [.val v2]) .bad)
theorem c_laws_toDeedS (x0 : AV) : CC Tryz.prog n_laws_toDeedS [x0] (p_laws_toDeedS x0) := cc Tryz.func63 [0, 3, 4] (fun _ => []) (by kernel_rfl)
/- laws.eqDeedS -/
def p_laws_eqDeedS (x0 x1 : AV) : Prog := .op (.len 0 x0) fun v1 => .op (.len 0 x1) fun v2 => .op (.bin 0 .neq v1 v2) fun v3 => .ite v3 (.fin [.val (AV.bool false)]) (.loop [AV.int .i64 0] (fun vs4 => .op (.len 0 x0) fun v6 => .op (.bin 0 .lss (g vs4 0) v6) fun v7 => .ite v7 (.op (.idx 20 x0 (g vs4 0)) fun v8 => .op (.ldn 20 v8) fun v9 => .op (.idx 20 x1 (g vs4 0)) fun v10 => .op (.ldn 20 v10) fun v11 => .op (.call n_laws_eqDeed [v9, v11]) fun v12 => .op (.una .not v12) fun v13 => .ite v13 (.fin [.val (AV.bool false)]) (.op (.bin 0 .add (g vs4 0) (AV.int .i64 1)) fun v14 => .leaf 0 [v14])) (.leaf 2 [g vs4 0])) fun t5 vs4 => tsel t5 1 (.leaf 1 vs4) (tsel t5 2 (.fin [.val (AV.bool true)]) .bad))
theorem c_laws_eqDeedS (x0 x1 : AV) : CC Tryz.prog n_laws_eqDeedS [x0, x1] (p_laws_eqDeedS x0 x1) := cc Tryz.func75 [0, 1, 5] (fun r => if r = 6 then [(0, []), (1, []), (2, []), (3, []), (4, []), (5, []), (6, []), (7, []), (8, []), (9, [])] else []) (by kernel_rfl)
/- laws.szDeedS -/
def p_laws_szDeedS (x0 x1 : AV) : Prog := .op (.len 0 x0) fun v1 => .op (.bin 0 .sub x1 v1) fun v2 => .op (.bin 0 .lss v2 (AV.int .i64 0)) fun v3 => .ite v3 (.fin [.val (AV.int .i64 (-1))]) (.loop [v2, AV.int .i64 0] (fun vs4 => .op (.len 0 x0) fun v6 => .op (.bin 0 .lss (g vs4 1) v6) fun v7 => .ite v7 (.op (.idx 20 x0 (g vs4 1)) fun v8 => .op (.ldn 20 v8) fun v9 => .op (.call n_laws_szDeed [v9, g vs4 0]) fun v10 => .op (.bin 0 .lss v10 (AV.int .i64 0)) fun v11 => .ite v11 (.fin [.val (AV.int .i64 (-1))]) (.op (.bin 0 .add (g vs4 1) (AV.int .i64 1)) fun v12 => .leaf 0 [v10, v12])) (.leaf 2 [g vs4 0, g vs4 1])) fun t5 vs4 => tsel t5 1 (.leaf 1 vs4) (tsel t5 2 (.fin [.val (g vs4 0)]) .bad))
theorem c_laws_szDeedS (x0 x1 : AV) : CC Tryz.prog n_laws_szDeedS [x0, x1] (p_laws_szDeedS x0 x1) := cc Tryz.func43 [0, 1, 5] (fun _ => []) (by kernel_rfl)
end
theorem s_laws_toDeedS (xs : List Deed) (hs : xs.length + szs xs ≤ 1048576) : CopyL Tryz.prog n_laws_toDeedS xs := copyL_of rfl rfl (by decide) hs (fun x hx => s_laws_toDeed x hx) (fun g => c_laws_toDeedS _ g)
theorem s_laws_eqDeedS : EqS Deed Tryz.prog n_laws_eqDeedS := fun xs v v' F F' h r r' => reader (c_laws_eqDeedS _ _) (by simp only [old]) (eqS_spec rfl s_laws_eqDeed r r')
theorem s_laws_szDeedS : SzL Deed Tryz.prog n_laws_szDeedS := fun xs ok v F b h r h0 h1 => reader (c_laws_szDeedS _ _) (by simp only [old]) (szS_spec rfl s_laws_szDeed ok r h0 h1)
end Go.Proofs.YtideefohbkhhhaaGreat
