import Derived.Test.YtjnekdbdmoibgaaGreatCKW1
import Derived.Test.YtjnekdbdmoibgaaGreatCK4
import Derived.Test.YtjnekdbdmoibgaaGreatCK5
import Derived.Test.YtjnekdbdmoibgaaGreatCNm
section
/- Wheels: what is in them, and which may be. -/
set_option linter.unusedSimpArgs false
set_option linter.unusedVariables false
set_option maxHeartbeats 2000000
namespace Go.Proofs.YtjnekdbdmoibgaaGreat
open Go Go.Ab
section
/- impl.Timers -/
def p_impl_Timers (x0 : AV) : Prog := .op (.box x0) fun v1 => .op (.fad 1 v1) fun v2 => .op (.ld1 v2) fun v3 => .op (.len 0 v3) fun v4 => .loop [AV.nils, AV.int .i64 0] (fun vs5 => .op (.bin 0 .lss (g vs5 1) v4) fun v7 => .ite v7 (.op (.idx 1 v3 (g vs5 1)) fun v8 => .op (.ld1 v8) fun v9 => .op (.app 3 24 (g vs5 0) v9) fun v10 => .op (.bin 0 .add (g vs5 1) (AV.int .i64 1)) fun v11 => .leaf 0 [v10, v11]) (.leaf 2 [g vs5 0, g vs5 1])) fun t6 vs5 => tsel t6 1 (.leaf 1 vs5) (tsel t6 2 (.op (.fad 2 v1) fun v12 => .op (.ld1 v12) fun v13 => .op (.len 0 v13) fun v14 => .loop [g vs5 0, AV.int .i64 0] (fun vs15 => .op (.bin 0 .lss (g vs15 1) v14) fun v17 => .ite v17 (.op (.idx 1 v13 (g vs15 1)) fun v18 => .op (.ld1 v18) fun v19 => .op (.app 3 24 (g vs15 0) v19) fun v20 => .op (.bin 0 .add (g vs15 1) (AV.int .i64 1)) fun v21 => .leaf 0 [v20, v21]) (.leaf 4 [g vs15 0, g vs15 1])) fun t16 vs15 => tsel t16 1 (.leaf 1 vs15) (tsel t16 4 (.op (.fad 3 v1) fun v22 => .op (.ld1 v22) fun v23 => .op (.app 3 24 (g vs15 0) v23) fun v24 => .fin [.val v24]) .bad)) .bad)
theorem c_impl_Timers (x0 : AV) : CC Tryz.prog n_impl_Timers [x0] (p_impl_Timers x0) := cc Tryz.func214 [1, 3, 9, 10, 11, 20, 21, 22] (fun _ => []) (by kernel_rfl)
/- spec.Timers -/
def p_spec_Timers (x0 : AV) : Prog := .op (.box x0) fun v1 => .op (.bslice 3 0 [] []) fun v2 => .loop [v2, AV.int .i64 0] (fun vs3 => .op (.fad 1 v1) fun v5 => .op (.ld1 v5) fun v6 => .op (.len 0 v6) fun v7 => .op (.bin 0 .lss (g vs3 1) v7) fun v8 => .ite v8 (.op (.fad 1 v1) fun v9 => .op (.ld1 v9) fun v10 => .op (.idx 1 v10 (g vs3 1)) fun v11 => .op (.ld1 v11) fun v12 => .op (.app 3 24 (g vs3 0) v12) fun v13 => .op (.bin 0 .add (g vs3 1) (AV.int .i64 1)) fun v14 => .leaf 0 [v13, v14]) (.leaf 2 [g vs3 0, g vs3 1])) fun t4 vs3 => tsel t4 1 (.leaf 1 vs3) (tsel t4 2 (.loop [g vs3 0, AV.int .i64 0] (fun vs15 => .op (.fad 2 v1) fun v17 => .op (.ld1 v17) fun v18 => .op (.len 0 v18) fun v19 => .op (.bin 0 .lss (g vs15 1) v19) fun v20 => .ite v20 (.op (.fad 2 v1) fun v21 => .op (.ld1 v21) fun v22 => .op (.idx 1 v22 (g vs15 1)) fun v23 => .op (.ld1 v23) fun v24 => .op (.app 3 24 (g vs15 0) v24) fun v25 => .op (.bin 0 .add (g vs15 1) (AV.int .i64 1)) fun v26 => .leaf 0 [v25, v26]) (.leaf 4 [g vs15 0, g vs15 1])) fun t16 vs15 => tsel t16 1 (.leaf 1 vs15) (tsel t16 4 (.op (.fad 3 v1) fun v27 => .op (.ld1 v27) fun v28 => .op (.app 3 24 (g vs15 0) v28) fun v29 => .fin [.val v29]) .bad)) .bad)
theorem c_spec_Timers (x0 : AV) : CC Tryz.prog n_spec_Timers [x0] (p_spec_Timers x0) := cc Tryz.func119 [1, 3, 4, 5] (fun _ => []) (by kernel_rfl)
/- impl.belongs -/
def p_impl_belongs (x0 x1 x2 x3 : AV) : Prog := .op (.box x0) fun v1 => .op (.len 0 x1) fun v2 => .loop [.tup [], AV.int .i64 0] (fun vs3 => .op (.bin 0 .lss (g vs3 1) v2) fun v5 => .ite v5 (.op (.idx 3 x1 (g vs3 1)) fun v6 => .op (.ldn 3 v6) fun v7 => .op (.alloc [AV.int .i64 0, AV.int .i64 0, AV.int .i64 0]) fun v8 => .op (.st 3 v8 v7) fun v9 => .op (.fad 0 v8) fun v10 => .op (.ld1 v10) fun v11 => .op (.bin 0 .lss v11 (AV.int .i64 1)) fun v12 => .gop v12 false (.fad 1 v8) fun v13 => .gop v12 false (.ld1 v13) fun v14 => .gop v12 false (.call n_impl_within [v14, AV.int .i64 1, AV.int .i64 999]) fun v15 => .gop v12 false (.una .not v15) fun v16 => .op (.pick v12 (AV.bool true) v16) fun v17 => .gop v17 false (.fad 2 v8) fun v18 => .gop v17 false (.ld1 v18) fun v19 => .gop v17 false (.fad 0 v1) fun v20 => .gop v17 false (.ld1 v20) fun v21 => .gop v17 false (.bin 0 .leq v19 v21) fun v22 => .op (.pick v17 (AV.bool true) v22) fun v23 => .gop v23 false (.fad 2 v8) fun v24 => .gop v23 false (.ld1 v24) fun v25 => .gop v23 false (.bin 0 .gtr v25 (AV.int .i64 2147483647)) fun v26 => .op (.pick v23 (AV.bool true) v26) fun v27 => .ite v27 (.fin [.val (AV.bool false)]) (.op (.fad 2 v8) fun v28 => .op (.ld1 v28) fun v29 => .op (.bin 0 .quo v29 (AV.int .i64 8)) fun v30 => .op (.fad 0 v1) fun v31 => .op (.ld1 v31) fun v32 => .op (.bin 0 .quo v32 (AV.int .i64 8)) fun v33 => .op (.bin 0 .sub v30 v33) fun v34 => .op (.bin 0 .geq v34 (AV.int .i64 8)) fun v35 => .op (.bin 0 .eql x2 (AV.int .i64 0)) fun v36 => .scope (.ite v36 (.op (.bin 0 .eql v34 (AV.int .i64 0)) fun v37 => .gop v37 true (.fad 2 v8) fun v38 => .gop v37 true (.ld1 v38) fun v39 => .gop v37 true (.bin 0 .rem v39 (AV.int .i64 8)) fun v40 => .gop v37 true (.mv x3) fun v41 => .gop v37 true (.bin 0 .eql v40 v41) fun v42 => .op (.pick v37 v42 (AV.bool false)) fun v43 => .leaf 0 [v43]) (.op (.bin 0 .eql x2 (AV.int .i64 1)) fun v44 => .scope (.ite v44 (.op (.call n_impl_within [v34, AV.int .i64 1, AV.int .i64 7]) fun v45 => .gop v45 true (.fad 2 v8) fun v46 => .gop v45 true (.ld1 v46) fun v47 => .gop v45 true (.bin 0 .quo v47 (AV.int .i64 8)) fun v48 => .gop v45 true (.bin 0 .rem v48 (AV.int .i64 8)) fun v49 => .gop v45 true (.mv x3) fun v50 => .gop v45 true (.bin 0 .eql v49 v50) fun v51 => .op (.pick v45 v51 (AV.bool false)) fun v52 => .leaf 0 [v52]) (.leaf 0 [v35])) (fun vs53 => .leaf 0 [g vs53 0]) fun t54 vs53 => tsel t54 1 (.leaf 1 vs53) .bad)) (fun vs55 => .op (.una .not (g vs55 0)) fun v57 => .ite v57 (.fin [.val (AV.bool false)]) (.op (.bin 0 .add (g vs3 1) (AV.int .i64 1)) fun v58 => .leaf 0 [g vs55 0, v58])) fun t56 vs55 => tsel t56 1 (.leaf 1 vs55) .bad)) (.leaf 2 [g vs3 0, g vs3 1])) fun t4 vs3 => tsel t4 1 (.leaf 1 vs3) (tsel t4 2 (.fin [.val (AV.bool true)]) .bad)
theorem c_impl_belongs (x0 x1 x2 x3 : AV) : CC Tryz.prog n_impl_belongs [x0, x1, x2, x3] (p_impl_belongs x0 x1 x2 x3) := cc Tryz.func285 [2, 3, 4, 12, 13, 14, 15] (fun _ => []) (by kernel_rfl)
/- spec.l8Place -/
def p_spec_l8Place (x0 x1 : AV) : Prog := .op (.bin 0 .quo x1 (AV.int .i64 8)) fun v1 => .op (.bin 0 .quo x0 (AV.int .i64 8)) fun v2 => .op (.bin 0 .eql v1 v2) fun v3 => .ite v3 (.op (.bin 0 .rem x1 (AV.int .i64 8)) fun v4 => .fin [.val (AV.int .i64 1), .val v4]) (.op (.bin 0 .quo x1 (AV.int .i64 8)) fun v5 => .op (.bin 0 .quo x0 (AV.int .i64 8)) fun v6 => .op (.bin 0 .sub v5 v6) fun v7 => .op (.bin 0 .lss v7 (AV.int .i64 8)) fun v8 => .ite v8 (.op (.bin 0 .quo x1 (AV.int .i64 8)) fun v9 => .op (.bin 0 .rem v9 (AV.int .i64 8)) fun v10 => .fin [.val (AV.int .i64 2), .val v10]) (.fin [.val (AV.int .i64 3), .val (AV.int .i64 0)]))
theorem c_spec_l8Place (x0 x1 : AV) : CC Tryz.prog n_spec_l8Place [x0, x1] (p_spec_l8Place x0 x1) := cc Tryz.func268 [] (fun _ => []) (by kernel_rfl)
/- spec.l8Slot -/
def p_spec_l8Slot (x0 x1 x2 x3 : AV) : Prog := .op (.box x0) fun v1 => .loop [AV.int .i64 0] (fun vs2 => .op (.len 0 x1) fun v4 => .op (.bin 0 .lss (g vs2 0) v4) fun v5 => .ite v5 (.op (.idx 3 x1 (g vs2 0)) fun v6 => .op (.ldn 3 v6) fun v7 => .op (.alloc [AV.int .i64 0, AV.int .i64 0, AV.int .i64 0]) fun v8 => .op (.st 3 v8 v7) fun v9 => .op (.fad 0 v8) fun v10 => .op (.ld1 v10) fun v11 => .op (.bin 0 .lss v11 (AV.int .i64 1)) fun v12 => .gop v12 false (.fad 1 v8) fun v13 => .gop v12 false (.ld1 v13) fun v14 => .gop v12 false (.call n_spec_l1In [v14, AV.int .i64 1, AV.int .i64 999]) fun v15 => .gop v12 false (.una .not v15) fun v16 => .op (.pick v12 (AV.bool true) v16) fun v17 => .gop v17 false (.fad 2 v8) fun v18 => .gop v17 false (.ld1 v18) fun v19 => .gop v17 false (.fad 0 v1) fun v20 => .gop v17 false (.ld1 v20) fun v21 => .gop v17 false (.bin 0 .add v21 (AV.int .i64 1)) fun v22 => .gop v17 false (.call n_spec_l1In [v19, v22, AV.int .i64 2147483647]) fun v23 => .gop v17 false (.una .not v23) fun v24 => .op (.pick v17 (AV.bool true) v24) fun v25 => .ite v25 (.fin [.val (AV.bool false)]) (.op (.fad 0 v1) fun v26 => .op (.ld1 v26) fun v27 => .op (.fad 2 v8) fun v28 => .op (.ld1 v28) fun v29 => .op (.call n_spec_l8Place [v27, v29]) fun v30 => .op (.ext v30 0) fun v31 => .op (.ext v30 1) fun v32 => .op (.bin 0 .neq v31 x2) fun v33 => .gop v33 false (.mv v32) fun v34 => .gop v33 false (.mv x3) fun v35 => .gop v33 false (.bin 0 .neq v34 v35) fun v36 => .op (.pick v33 (AV.bool true) v36) fun v37 => .ite v37 (.fin [.val (AV.bool false)]) (.op (.bin 0 .add (g vs2 0) (AV.int .i64 1)) fun v38 => .leaf 0 [v38]))) (.leaf 2 [g vs2 0])) fun t3 vs2 => tsel t3 1 (.leaf 1 vs2) (tsel t3 2 (.fin [.val (AV.bool true)]) .bad)
theorem c_spec_l8Slot (x0 x1 x2 x3 : AV) : CC Tryz.prog n_spec_l8Slot [x0, x1, x2, x3] (p_spec_l8Slot x0 x1 x2 x3) := cc Tryz.func193 [1, 2, 3, 4, 9] (fun _ => []) (by kernel_rfl)
/- impl.timerAt$1 -/
def p_impl_timerAt_1 (x0 x1 : AV) : Prog := .op (.box x0) fun v1 => .op (.fad 0 v1) fun v2 => .op (.ld1 v2) fun v3 => .op (.ld1 x1) fun v4 => .op (.bin 0 .eql v3 v4) fun v5 => .fin [.val v5]
theorem c_impl_timerAt_1 (x0 x1 : AV) : CC Tryz.prog n_impl_timerAt_1 [x0, x1] (p_impl_timerAt_1 x0 x1) := cc Tryz.func321 [] (fun _ => []) (by kernel_rfl)
/- slices.IndexFunc[[]impl.Timer,impl.Timer] -/
def p_slices_IndexFunc_Timer (x0 x1 : AV) : Prog := .op (.len 0 x0) fun v1 => .loop [AV.int .i64 0] (fun vs2 => .op (.bin 0 .lss (g vs2 0) v1) fun v4 => .ite v4 (.op (.idx 3 x0 (g vs2 0)) fun v5 => .op (.ldn 3 v5) fun v6 => .op (.callv x1 [v6]) fun v7 => .ite v7 (.fin [.val (g vs2 0)]) (.op (.bin 0 .add (g vs2 0) (AV.int .i64 1)) fun v8 => .leaf 0 [v8])) (.leaf 2 [g vs2 0])) fun t3 vs2 => tsel t3 1 (.leaf 1 vs2) (tsel t3 2 (.fin [.val (AV.int .i64 (-1))]) .bad)
theorem c_slices_IndexFunc_Timer (x0 x1 : AV) : CC Tryz.prog n_slices_IndexFunc_Timer [x0, x1] (p_slices_IndexFunc_Timer x0 x1) := cc Tryz.func292 [0, 1, 7, 8] (fun _ => []) (by kernel_rfl)
/- impl.timerAt -/
def p_impl_timerAt (x0 x1 : AV) : Prog := .op (.box x1) fun v1 => .op (.mkfn n_impl_timerAt_1 [v1]) fun v2 => .op (.call n_slices_IndexFunc_Timer [x0, v2]) fun v3 => .fin [.val v3]
theorem c_impl_timerAt (x0 x1 : AV) : CC Tryz.prog n_impl_timerAt [x0, x1] (p_impl_timerAt x0 x1) := cc Tryz.func259 [] (fun _ => []) (by kernel_rfl)
/- impl.WheelOk -/
def p_impl_WheelOk (x0 : AV) : Prog := .op (.box x0) fun v1 => .op (.fad 0 v1) fun v2 => .op (.ld1 v2) fun v3 => .op (.call n_impl_within [v3, AV.int .i64 0, AV.int .i64 2147483647]) fun v4 => .op (.una .not v4) fun v5 => .gop v5 false (.fad 1 v1) fun v6 => .gop v5 false (.ld1 v6) fun v7 => .gop v5 false (.len 0 v7) fun v8 => .gop v5 false (.bin 0 .neq v8 (AV.int .i64 8)) fun v9 => .op (.pick v5 (AV.bool true) v9) fun v10 => .gop v10 false (.fad 2 v1) fun v11 => .gop v10 false (.ld1 v11) fun v12 => .gop v10 false (.len 0 v12) fun v13 => .gop v10 false (.bin 0 .neq v13 (AV.int .i64 8)) fun v14 => .op (.pick v10 (AV.bool true) v14) fun v15 => .gop v15 false (.ldn 4 v1) fun v16 => .gop v15 false (.fad 3 v1) fun v17 => .gop v15 false (.ld1 v17) fun v18 => .gop v15 false (.call n_impl_belongs [v16, v18, AV.int .i64 2, AV.int .i64 0]) fun v19 => .gop v15 false (.una .not v19) fun v20 => .op (.pick v15 (AV.bool true) v20) fun v21 => .ite v21 (.fin [.val (AV.bool false)]) (.loop [AV.int .i64 0] (fun vs22 => .op (.bin 0 .lss (g vs22 0) (AV.int .i64 8)) fun v24 => .ite v24 (.op (.ldn 4 v1) fun v25 => .op (.fad 1 v1) fun v26 => .op (.ld1 v26) fun v27 => .op (.idx 1 v27 (g vs22 0)) fun v28 => .op (.ld1 v28) fun v29 => .op (.call n_impl_belongs [v25, v29, AV.int .i64 0, g vs22 0]) fun v30 => .op (.una .not v30) fun v31 => .gop v31 false (.ldn 4 v1) fun v32 => .gop v31 false (.fad 2 v1) fun v33 => .gop v31 false (.ld1 v33) fun v34 => .gop v31 false (.mv (g vs22 0)) fun v35 => .gop v31 false (.idx 1 v34 v35) fun v36 => .gop v31 false (.ld1 v36) fun v37 => .gop v31 false (.mv (g vs22 0)) fun v38 => .gop v31 false (.call n_impl_belongs [v32, v37, AV.int .i64 1, v38]) fun v39 => .gop v31 false (.una .not v39) fun v40 => .op (.pick v31 (AV.bool true) v40) fun v41 => .ite v41 (.fin [.val (AV.bool false)]) (.op (.bin 0 .add (g vs22 0) (AV.int .i64 1)) fun v42 => .leaf 0 [v42])) (.leaf 2 [g vs22 0])) fun t23 vs22 => tsel t23 1 (.leaf 1 vs22) (tsel t23 2 (.op (.ldn 4 v1) fun v43 => .op (.call n_impl_Timers [v43]) fun v44 => .op (.len 0 v44) fun v45 => .loop [AV.int .i64 0] (fun vs46 => .op (.bin 0 .lss (g vs46 0) v45) fun v48 => .ite v48 (.op (.idx 3 v44 (g vs46 0)) fun v49 => .op (.ldn 3 v49) fun v50 => .op (.alloc [AV.int .i64 0, AV.int .i64 0, AV.int .i64 0]) fun v51 => .op (.st 3 v51 v50) fun v52 => .op (.fad 0 v51) fun v53 => .op (.ld1 v53) fun v54 => .op (.call n_impl_timerAt [v44, v54]) fun v55 => .op (.bin 0 .neq v55 (g vs46 0)) fun v56 => .ite v56 (.fin [.val (AV.bool false)]) (.op (.bin 0 .add (g vs46 0) (AV.int .i64 1)) fun v57 => .leaf 0 [v57])) (.leaf 4 [g vs46 0])) fun t47 vs46 => tsel t47 1 (.leaf 1 vs46) (tsel t47 4 (.op (.len 0 v44) fun v58 => .op (.bin 0 .leq v58 (AV.int .i64 16)) fun v59 => .fin [.val v59]) .bad)) .bad))
theorem c_impl_WheelOk (x0 : AV) : CC Tryz.prog n_impl_WheelOk [x0] (p_impl_WheelOk x0) := cc Tryz.func213 [1, 3, 4, 56, 57, 58] (fun r => if r = 6 then [(0, []), (1, []), (2, []), (3, []), (4, []), (5, []), (6, []), (7, []), (8, []), (9, []), (10, []), (11, []), (12, []), (13, []), (14, []), (15, []), (16, []), (17, []), (18, []), (19, [])] else []) (by kernel_rfl)
/- spec.WheelOk -/
def p_spec_WheelOk (x0 : AV) : Prog := .op (.box x0) fun v1 => .op (.fad 1 v1) fun v2 => .op (.ld1 v2) fun v3 => .op (.len 0 v3) fun v4 => .op (.bin 0 .neq v4 (AV.int .i64 8)) fun v5 => .gop v5 false (.fad 2 v1) fun v6 => .gop v5 false (.ld1 v6) fun v7 => .gop v5 false (.len 0 v7) fun v8 => .gop v5 false (.bin 0 .neq v8 (AV.int .i64 8)) fun v9 => .op (.pick v5 (AV.bool true) v9) fun v10 => .gop v10 false (.fad 0 v1) fun v11 => .gop v10 false (.ld1 v11) fun v12 => .gop v10 false (.call n_spec_l1In [v12, AV.int .i64 0, AV.int .i64 2147483647]) fun v13 => .gop v10 false (.una .not v13) fun v14 => .op (.pick v10 (AV.bool true) v14) fun v15 => .gop v15 false (.ldn 4 v1) fun v16 => .gop v15 false (.fad 3 v1) fun v17 => .gop v15 false (.ld1 v17) fun v18 => .gop v15 false (.call n_spec_l8Slot [v16, v18, AV.int .i64 3, AV.int .i64 0]) fun v19 => .gop v15 false (.una .not v19) fun v20 => .op (.pick v15 (AV.bool true) v20) fun v21 => .ite v21 (.fin [.val (AV.bool false)]) (.loop [AV.int .i64 0] (fun vs22 => .op (.bin 0 .lss (g vs22 0) (AV.int .i64 8)) fun v24 => .ite v24 (.op (.ldn 4 v1) fun v25 => .op (.fad 1 v1) fun v26 => .op (.ld1 v26) fun v27 => .op (.idx 1 v27 (g vs22 0)) fun v28 => .op (.ld1 v28) fun v29 => .op (.call n_spec_l8Slot [v25, v29, AV.int .i64 1, g vs22 0]) fun v30 => .op (.una .not v30) fun v31 => .gop v31 false (.ldn 4 v1) fun v32 => .gop v31 false (.fad 2 v1) fun v33 => .gop v31 false (.ld1 v33) fun v34 => .gop v31 false (.mv (g vs22 0)) fun v35 => .gop v31 false (.idx 1 v34 v35) fun v36 => .gop v31 false (.ld1 v36) fun v37 => .gop v31 false (.mv (g vs22 0)) fun v38 => .gop v31 false (.call n_spec_l8Slot [v32, v37, AV.int .i64 2, v38]) fun v39 => .gop v31 false (.una .not v39) fun v40 => .op (.pick v31 (AV.bool true) v40) fun v41 => .ite v41 (.fin [.val (AV.bool false)]) (.op (.bin 0 .add (g vs22 0) (AV.int .i64 1)) fun v42 => .leaf 0 [v42])) (.leaf 2 [g vs22 0])) fun t23 vs22 => tsel t23 1 (.leaf 1 vs22) (tsel t23 2 (.op (.ldn 4 v1) fun v43 => .op (.call n_spec_Timers [v43]) fun v44 => .loop [AV.int .i64 0, .tup []] (fun vs45 => .op (.len 0 v44) fun v47 => .op (.bin 0 .lss (g vs45 0) v47) fun v48 => .ite v48 (.loop [AV.int .i64 0] (fun vs49 => .op (.bin 0 .lss (g vs49 0) (g vs45 0)) fun v51 => .ite v51 (.op (.idx 3 v44 (g vs49 0)) fun v52 => .op (.fad 0 v52) fun v53 => .op (.ld1 v53) fun v54 => .op (.idx 3 v44 (g vs45 0)) fun v55 => .op (.fad 0 v55) fun v56 => .op (.ld1 v56) fun v57 => .op (.bin 0 .eql v54 v57) fun v58 => .ite v58 (.fin [.val (AV.bool false)]) (.op (.bin 0 .add (g vs49 0) (AV.int .i64 1)) fun v59 => .leaf 0 [v59])) (.leaf 6 [g vs49 0])) fun t50 vs49 => tsel t50 1 (.leaf 1 vs49) (tsel t50 6 (.op (.bin 0 .add (g vs45 0) (AV.int .i64 1)) fun v60 => .leaf 0 [v60, g vs49 0]) .bad)) (.leaf 4 [g vs45 0, g vs45 1])) fun t46 vs45 => tsel t46 1 (.leaf 1 vs45) (tsel t46 4 (.op (.len 0 v44) fun v61 => .op (.bin 0 .leq v61 (AV.int .i64 16)) fun v62 => .fin [.val v62]) .bad)) .bad))
theorem c_spec_WheelOk (x0 : AV) : CC Tryz.prog n_spec_WheelOk [x0] (p_spec_WheelOk x0) := cc Tryz.func118 [1, 3, 4, 5, 6] (fun r => if r = 6 then [(0, []), (1, []), (2, []), (3, []), (4, []), (5, []), (6, []), (7, []), (8, []), (9, []), (10, []), (11, []), (12, []), (13, []), (14, []), (15, []), (16, []), (17, []), (18, []), (19, [])] else if r = 15 then [(0, []), (1, []), (2, []), (3, []), (4, []), (5, []), (6, []), (7, []), (8, []), (9, []), (10, [])] else []) (by kernel_rfl)
end
def timers (w : Wheel) : List Ab.Timer := (w.near.flatten ++ w.far.flatten) ++ w.rest
theorem flat_s {l : List (List Ab.Timer)} {i : Nat} {x : List Ab.Timer} (ht : l.take (i + 1) = l.take i ++ [x]) : (l.take (i + 1)).flatten = (l.take i).flatten ++ x := by rw [ht]; simp
theorem flat_b : ∀ l : List (List Ab.Timer), l.flatten.length ≤ szs l
  | [] => by simp
  | x :: l => by
    have := flat_b l
    have h2 : Sz.sz x = x.length + szs x := rfl
    simp only [List.flatten_cons, List.length_append, szs]; omega
theorem s_impl_Timers {h : AH} {w : Wheel} {v0 v1 v2 : AV} {F0 F1 F2 : List Nat} (hs : Sz.sz w ≤ 67108864) (r0 : SlRep h v0 w.near F0) (r1 : SlRep h v1 w.far F1) (r2 : SlRep h v2 w.rest F2) : ACalls Tryz.prog n_impl_Timers [.agg (w.cs v0 v1 v2)] h (NewS Ab.Timer h (timers w)) := by
  have hsz : Sz.sz w = (w.near.length + szs w.near) + (w.far.length + szs w.far) + (w.rest.length + szs w.rest) := rfl
  refine c_impl_Timers _ ?_
  unfold p_impl_Timers
  have hb0 := flat_b w.near
  have hb1 := flat_b w.far
  (repeat' first|refine vs ?_|(refine br ?_ ?_<;>intro _<;>try(exfalso;first|omega|contradiction))|((with_reducible refine g_idx ?_);((first|refine ix ?_|refine ixi ?_|(refine ixg ?_;intro _ _)|(refine ixgi ?_;intro _ _));first|rintro _ _ _ _ _ ⟨rfl,rfl⟩ _|rintro _ _ _ _ _ ⟨_,rfl,_⟩ _|rintro _ _ _ _ _ ⟨_,_,_,_,rfl,rfl,_,_⟩ _|intro _ _ _ _ _ _ _))|(refine sx ?_;intro _ _)|((with_reducible refine g_awp ?_);simp only [g0,g1,g2]))
  refine aw_upto w.near.length (fun i vs h1 => ∃ u G, vs = [u, .int .i64 (i : Int)] ∧ i ≤ w.near.length ∧ Ext (h.push ⟨w.cs v0 v1 v2, 0, 0⟩) h1 ∧ SlRep h1 u (w.near.take i).flatten G ∧ Own (h.n + 1) h1 G) ⟨.nils, [], rfl, Nat.zero_le _, ext_auto, SlRep.nils, Own.nil⟩ ?_
  rintro i vs h1 _ ⟨u, G, rfl, hi, e1, ru, ou⟩
  have n1 := e1.1
  simp only [push_n] at n1
  simp only [g0, g1]
  have hb := flat_b (w.near.take i)
  have hle := szs_take_le w.near i
  refine br (fun hlt => ?_) (fun hge => ?_)
  · obtain ⟨x, hx, -, htk⟩ := drop_step (show i < w.near.length by omega)
    have hm := szs_mem (List.mem_of_getElem? hx)
    have hx2 : Sz.sz x = x.length + szs x := rfl
    refine vs ?_
    refine aw_idx r0 hx rfl ?_
    rintro b o _ Fi a ⟨vx, rfl, rx⟩ _
    (repeat' first|refine vs ?_|(refine br ?_ ?_<;>intro _<;>try(exfalso;first|omega|contradiction))|((with_reducible refine g_idx ?_);((first|refine ix ?_|refine ixi ?_|(refine ixg ?_;intro _ _)|(refine ixgi ?_;intro _ _));first|rintro _ _ _ _ _ ⟨rfl,rfl⟩ _|rintro _ _ _ _ _ ⟨_,rfl,_⟩ _|rintro _ _ _ _ _ ⟨_,_,_,_,rfl,rfl,_,_⟩ _|intro _ _ _ _ _ _ _))|(refine sx ?_;intro _ _)|((with_reducible refine g_awp ?_);simp only [g0,g1,g2]))
    refine app2F (n := h.n + 1) (xs := (w.near.take i).flatten) (ys := x) (Fx := G) slr_auto (slr_auto : SlRep _ vx x Fi) ol_auto om_auto rfl ?_ ?_ ?_
    · omega
    · omega
    intro u' h' F' ek kp r' o'
    (repeat' first|refine vs ?_|(refine br ?_ ?_<;>intro _<;>try(exfalso;first|omega|contradiction))|((with_reducible refine g_idx ?_);((first|refine ix ?_|refine ixi ?_|(refine ixg ?_;intro _ _)|(refine ixgi ?_;intro _ _));first|rintro _ _ _ _ _ ⟨rfl,rfl⟩ _|rintro _ _ _ _ _ ⟨_,rfl,_⟩ _|rintro _ _ _ _ _ ⟨_,_,_,_,rfl,rfl,_,_⟩ _|intro _ _ _ _ _ _ _))|(refine sx ?_;intro _ _)|((with_reducible refine g_awp ?_);simp only [g0,g1,g2]))
    exact ⟨by omega, u', F', rfl, by omega, ek _ e1 (by simp only [push_n]; omega), by rw [flat_s htk]; exact r', o'⟩
  · have e : i = w.near.length := by omega
    rw [e, List.take_length] at ru
    clear hb hle
    (repeat' first|refine vs ?_|(refine br ?_ ?_<;>intro _<;>try(exfalso;first|omega|contradiction))|((with_reducible refine g_idx ?_);((first|refine ix ?_|refine ixi ?_|(refine ixg ?_;intro _ _)|(refine ixgi ?_;intro _ _));first|rintro _ _ _ _ _ ⟨rfl,rfl⟩ _|rintro _ _ _ _ _ ⟨_,rfl,_⟩ _|rintro _ _ _ _ _ ⟨_,_,_,_,rfl,rfl,_,_⟩ _|intro _ _ _ _ _ _ _))|(refine sx ?_;intro _ _)|((with_reducible refine g_awp ?_);simp only [g0,g1,g2]))
    refine aw_upto w.far.length (fun i vs h1 => ∃ u G, vs = [u, .int .i64 (i : Int)] ∧ i ≤ w.far.length ∧ Ext (h.push ⟨w.cs v0 v1 v2, 0, 0⟩) h1 ∧ SlRep h1 u (w.near.flatten ++ (w.far.take i).flatten) G ∧ Own (h.n + 1) h1 G) ⟨u, G, rfl, Nat.zero_le _, e1, by simpa using ru, ou⟩ ?_
    clear ru ou e1 n1
    rintro i vs h1 _ ⟨u, G, rfl, hi, e1, ru, ou⟩
    have n1 := e1.1
    simp only [push_n] at n1
    simp only [g0, g1]
    have hb := flat_b (w.far.take i)
    have hle := szs_take_le w.far i
    refine br (fun hlt => ?_) (fun hge => ?_)
    · obtain ⟨x, hx, -, htk⟩ := drop_step (show i < w.far.length by omega)
      have hm := szs_mem (List.mem_of_getElem? hx)
      have hx2 : Sz.sz x = x.length + szs x := rfl
      refine vs ?_
      refine aw_idx r1 hx rfl ?_
      rintro b o _ Fi a ⟨vx, rfl, rx⟩ _
      (repeat' first|refine vs ?_|(refine br ?_ ?_<;>intro _<;>try(exfalso;first|omega|contradiction))|((with_reducible refine g_idx ?_);((first|refine ix ?_|refine ixi ?_|(refine ixg ?_;intro _ _)|(refine ixgi ?_;intro _ _));first|rintro _ _ _ _ _ ⟨rfl,rfl⟩ _|rintro _ _ _ _ _ ⟨_,rfl,_⟩ _|rintro _ _ _ _ _ ⟨_,_,_,_,rfl,rfl,_,_⟩ _|intro _ _ _ _ _ _ _))|(refine sx ?_;intro _ _)|((with_reducible refine g_awp ?_);simp only [g0,g1,g2]))
      refine app2F (n := h.n + 1) (xs := w.near.flatten ++ (w.far.take i).flatten) (ys := x) (Fx := G) slr_auto (slr_auto : SlRep _ vx x Fi) ol_auto om_auto rfl ?_ ?_ ?_
      · rw [List.length_append]; omega
      · rw [List.length_append]; omega
      intro u' h' F' ek kp r' o'
      (repeat' first|refine vs ?_|(refine br ?_ ?_<;>intro _<;>try(exfalso;first|omega|contradiction))|((with_reducible refine g_idx ?_);((first|refine ix ?_|refine ixi ?_|(refine ixg ?_;intro _ _)|(refine ixgi ?_;intro _ _));first|rintro _ _ _ _ _ ⟨rfl,rfl⟩ _|rintro _ _ _ _ _ ⟨_,rfl,_⟩ _|rintro _ _ _ _ _ ⟨_,_,_,_,rfl,rfl,_,_⟩ _|intro _ _ _ _ _ _ _))|(refine sx ?_;intro _ _)|((with_reducible refine g_awp ?_);simp only [g0,g1,g2]))
      exact ⟨by omega, u', F', rfl, by omega, ek _ e1 (by simp only [push_n]; omega), by rw [flat_s htk, ← List.append_assoc]; exact r', o'⟩
    · have e : i = w.far.length := by omega
      rw [e, List.take_length] at ru
      (repeat' first|refine vs ?_|(refine br ?_ ?_<;>intro _<;>try(exfalso;first|omega|contradiction))|((with_reducible refine g_idx ?_);((first|refine ix ?_|refine ixi ?_|(refine ixg ?_;intro _ _)|(refine ixgi ?_;intro _ _));first|rintro _ _ _ _ _ ⟨rfl,rfl⟩ _|rintro _ _ _ _ _ ⟨_,rfl,_⟩ _|rintro _ _ _ _ _ ⟨_,_,_,_,rfl,rfl,_,_⟩ _|intro _ _ _ _ _ _ _))|(refine sx ?_;intro _ _)|((with_reducible refine g_awp ?_);simp only [g0,g1,g2]))
      refine app2F (n := h.n + 1) (xs := w.near.flatten ++ w.far.flatten) (ys := w.rest) (Fx := G) slr_auto (slr_auto : SlRep _ v2 w.rest F2) ol_auto om_auto rfl ?_ ?_ ?_
      · rw [List.length_append]; omega
      · rw [List.length_append]; omega
      intro u' h' F' ek kp r' o'
      (repeat' first|refine vs ?_|(refine br ?_ ?_<;>intro _<;>try(exfalso;first|omega|contradiction))|((with_reducible refine g_idx ?_);((first|refine ix ?_|refine ixi ?_|(refine ixg ?_;intro _ _)|(refine ixgi ?_;intro _ _));first|rintro _ _ _ _ _ ⟨rfl,rfl⟩ _|rintro _ _ _ _ _ ⟨_,rfl,_⟩ _|rintro _ _ _ _ _ ⟨_,_,_,_,rfl,rfl,_,_⟩ _|intro _ _ _ _ _ _ _))|(refine sx ?_;intro _ _)|((with_reducible refine g_awp ?_);simp only [g0,g1,g2]))
      exact ⟨rfl, _, rfl, ek _ ext_auto (by omega), _, r', o'.mono (by omega) fun _ _ => rfl⟩
theorem s_spec_Timers {h : AH} {w : Wheel} {v0 v1 v2 : AV} {F0 F1 F2 : List Nat} (hs : Sz.sz w ≤ 67108864) (r0 : SlRep h v0 w.near F0) (r1 : SlRep h v1 w.far F1) (r2 : SlRep h v2 w.rest F2) : ACalls Tryz.prog n_spec_Timers [.agg (w.cs v0 v1 v2)] h (NewS Ab.Timer h (timers w)) := by
  have hsz : Sz.sz w = (w.near.length + szs w.near) + (w.far.length + szs w.far) + (w.rest.length + szs w.rest) := rfl
  refine c_spec_Timers _ ?_
  unfold p_spec_Timers
  have hb0 := flat_b w.near
  have hb1 := flat_b w.far
  have hl0 := r0.small
  have hl1 := r1.small
  refine vs ?_
  obtain ⟨re, oe⟩ := empty_own (h := h.push ⟨w.cs v0 v1 v2, 0, 0⟩) (α := Ab.Timer) (w := 3) rfl
  refine aw_upto w.near.length (fun i vs h1 => ∃ u G, vs = [u, .int .i64 (i : Int)] ∧ i ≤ w.near.length ∧ Ext (h.push ⟨w.cs v0 v1 v2, 0, 0⟩) h1 ∧ SlRep h1 u (w.near.take i).flatten G ∧ Own (h.n + 1) h1 G) ⟨_, _, rfl, Nat.zero_le _, ext_auto, re, oe _ (Nat.le_refl _)⟩ ?_
  rintro i vs h1 _ ⟨u, G, rfl, hi, e1, ru, ou⟩
  have n1 := e1.1
  simp only [push_n] at n1
  simp only [g0, g1]
  have hb := flat_b (w.near.take i)
  have hle := szs_take_le w.near i
  refine vs ?_
  refine br (fun hlt => ?_) (fun hge => ?_)
  · obtain ⟨x, hx, -, htk⟩ := drop_step (show i < w.near.length by omega)
    have hm := szs_mem (List.mem_of_getElem? hx)
    have hx2 : Sz.sz x = x.length + szs x := rfl
    refine vs ?_
    refine aw_idx r0 hx rfl ?_
    rintro b o _ Fi a ⟨vx, rfl, rx⟩ _
    (repeat' first|refine vs ?_|(refine br ?_ ?_<;>intro _<;>try(exfalso;first|omega|contradiction))|((with_reducible refine g_idx ?_);((first|refine ix ?_|refine ixi ?_|(refine ixg ?_;intro _ _)|(refine ixgi ?_;intro _ _));first|rintro _ _ _ _ _ ⟨rfl,rfl⟩ _|rintro _ _ _ _ _ ⟨_,rfl,_⟩ _|rintro _ _ _ _ _ ⟨_,_,_,_,rfl,rfl,_,_⟩ _|intro _ _ _ _ _ _ _))|(refine sx ?_;intro _ _)|((with_reducible refine g_awp ?_);simp only [g0,g1,g2]))
    refine app2F (n := h.n + 1) (xs := (w.near.take i).flatten) (ys := x) (Fx := G) slr_auto (slr_auto : SlRep _ vx x Fi) ol_auto om_auto rfl ?_ ?_ ?_
    · omega
    · omega
    intro u' h' F' ek kp r' o'
    (repeat' first|refine vs ?_|(refine br ?_ ?_<;>intro _<;>try(exfalso;first|omega|contradiction))|((with_reducible refine g_idx ?_);((first|refine ix ?_|refine ixi ?_|(refine ixg ?_;intro _ _)|(refine ixgi ?_;intro _ _));first|rintro _ _ _ _ _ ⟨rfl,rfl⟩ _|rintro _ _ _ _ _ ⟨_,rfl,_⟩ _|rintro _ _ _ _ _ ⟨_,_,_,_,rfl,rfl,_,_⟩ _|intro _ _ _ _ _ _ _))|(refine sx ?_;intro _ _)|((with_reducible refine g_awp ?_);simp only [g0,g1,g2]))
    exact ⟨by omega, u', F', rfl, by omega, ek _ e1 (by simp only [push_n]; omega), by rw [flat_s htk]; exact r', o'⟩
  · have e : i = w.near.length := by omega
    rw [e, List.take_length] at ru
    clear hb hle
    (repeat' first|refine vs ?_|(refine br ?_ ?_<;>intro _<;>try(exfalso;first|omega|contradiction))|((with_reducible refine g_idx ?_);((first|refine ix ?_|refine ixi ?_|(refine ixg ?_;intro _ _)|(refine ixgi ?_;intro _ _));first|rintro _ _ _ _ _ ⟨rfl,rfl⟩ _|rintro _ _ _ _ _ ⟨_,rfl,_⟩ _|rintro _ _ _ _ _ ⟨_,_,_,_,rfl,rfl,_,_⟩ _|intro _ _ _ _ _ _ _))|(refine sx ?_;intro _ _)|((with_reducible refine g_awp ?_);simp only [g0,g1,g2]))
    refine aw_upto w.far.length (fun i vs h1 => ∃ u G, vs = [u, .int .i64 (i : Int)] ∧ i ≤ w.far.length ∧ Ext (h.push ⟨w.cs v0 v1 v2, 0, 0⟩) h1 ∧ SlRep h1 u (w.near.flatten ++ (w.far.take i).flatten) G ∧ Own (h.n + 1) h1 G) ⟨u, G, rfl, Nat.zero_le _, e1, by simpa using ru, ou⟩ ?_
    clear ru ou e1 n1
    rintro i vs h1 _ ⟨u, G, rfl, hi, e1, ru, ou⟩
    have n1 := e1.1
    simp only [push_n] at n1
    simp only [g0, g1]
    have hb := flat_b (w.far.take i)
    have hle := szs_take_le w.far i
    refine vs ?_
    refine br (fun hlt => ?_) (fun hge => ?_)
    · obtain ⟨x, hx, -, htk⟩ := drop_step (show i < w.far.length by omega)
      have hm := szs_mem (List.mem_of_getElem? hx)
      have hx2 : Sz.sz x = x.length + szs x := rfl
      refine vs ?_
      refine aw_idx r1 hx rfl ?_
      rintro b o _ Fi a ⟨vx, rfl, rx⟩ _
      (repeat' first|refine vs ?_|(refine br ?_ ?_<;>intro _<;>try(exfalso;first|omega|contradiction))|((with_reducible refine g_idx ?_);((first|refine ix ?_|refine ixi ?_|(refine ixg ?_;intro _ _)|(refine ixgi ?_;intro _ _));first|rintro _ _ _ _ _ ⟨rfl,rfl⟩ _|rintro _ _ _ _ _ ⟨_,rfl,_⟩ _|rintro _ _ _ _ _ ⟨_,_,_,_,rfl,rfl,_,_⟩ _|intro _ _ _ _ _ _ _))|(refine sx ?_;intro _ _)|((with_reducible refine g_awp ?_);simp only [g0,g1,g2]))
      refine app2F (n := h.n + 1) (xs := w.near.flatten ++ (w.far.take i).flatten) (ys := x) (Fx := G) slr_auto (slr_auto : SlRep _ vx x Fi) ol_auto om_auto rfl ?_ ?_ ?_
      · rw [List.length_append]; omega
      · rw [List.length_append]; omega
      intro u' h' F' ek kp r' o'
      (repeat' first|refine vs ?_|(refine br ?_ ?_<;>intro _<;>try(exfalso;first|omega|contradiction))|((with_reducible refine g_idx ?_);((first|refine ix ?_|refine ixi ?_|(refine ixg ?_;intro _ _)|(refine ixgi ?_;intro _ _));first|rintro _ _ _ _ _ ⟨rfl,rfl⟩ _|rintro _ _ _ _ _ ⟨_,rfl,_⟩ _|rintro _ _ _ _ _ ⟨_,_,_,_,rfl,rfl,_,_⟩ _|intro _ _ _ _ _ _ _))|(refine sx ?_;intro _ _)|((with_reducible refine g_awp ?_);simp only [g0,g1,g2]))
      exact ⟨by omega, u', F', rfl, by omega, ek _ e1 (by simp only [push_n]; omega), by rw [flat_s htk, ← List.append_assoc]; exact r', o'⟩
    · have e : i = w.far.length := by omega
      rw [e, List.take_length] at ru
      (repeat' first|refine vs ?_|(refine br ?_ ?_<;>intro _<;>try(exfalso;first|omega|contradiction))|((with_reducible refine g_idx ?_);((first|refine ix ?_|refine ixi ?_|(refine ixg ?_;intro _ _)|(refine ixgi ?_;intro _ _));first|rintro _ _ _ _ _ ⟨rfl,rfl⟩ _|rintro _ _ _ _ _ ⟨_,rfl,_⟩ _|rintro _ _ _ _ _ ⟨_,_,_,_,rfl,rfl,_,_⟩ _|intro _ _ _ _ _ _ _))|(refine sx ?_;intro _ _)|((with_reducible refine g_awp ?_);simp only [g0,g1,g2]))
      refine app2F (n := h.n + 1) (xs := w.near.flatten ++ w.far.flatten) (ys := w.rest) (Fx := G) slr_auto (slr_auto : SlRep _ v2 w.rest F2) ol_auto om_auto rfl ?_ ?_ ?_
      · rw [List.length_append]; omega
      · rw [List.length_append]; omega
      intro u' h' F' ek kp r' o'
      (repeat' first|refine vs ?_|(refine br ?_ ?_<;>intro _<;>try(exfalso;first|omega|contradiction))|((with_reducible refine g_idx ?_);((first|refine ix ?_|refine ixi ?_|(refine ixg ?_;intro _ _)|(refine ixgi ?_;intro _ _));first|rintro _ _ _ _ _ ⟨rfl,rfl⟩ _|rintro _ _ _ _ _ ⟨_,rfl,_⟩ _|rintro _ _ _ _ _ ⟨_,_,_,_,rfl,rfl,_,_⟩ _|intro _ _ _ _ _ _ _))|(refine sx ?_;intro _ _)|((with_reducible refine g_awp ?_);simp only [g0,g1,g2]))
      exact ⟨rfl, _, rfl, ek _ ext_auto (by omega), _, r', o'.mono (by omega) fun _ _ => rfl⟩

/-! ### Where a timer belongs -/
def slotP (now kind slot : Int) (t : Ab.Timer) : Prop := 1 ≤ t.id ∧ (1 ≤ t.trace ∧ t.trace ≤ 999) ∧ now < t.at_ ∧ t.at_ ≤ 2147483647 ∧
  ((kind = 0 ∧ t.at_ / 8 = now / 8 ∧ t.at_ % 8 = slot) ∨ (kind = 1 ∧ 1 ≤ t.at_ / 8 - now / 8 ∧ t.at_ / 8 - now / 8 ≤ 7 ∧ t.at_ / 8 % 8 = slot) ∨ (kind = 2 ∧ 8 ≤ t.at_ / 8 - now / 8))
theorem tm8 {a : Int} (h : 0 ≤ a) : a.tmod 8 = a % 8 := Int.tmod_eq_emod_of_nonneg h
theorem s_impl_belongs {h : AH} {w : Wheel} {l : List Ab.Timer} {v v0 v1 v2 : AV} {F : List Nat} {kind slot : Int} (h0 : 0 ≤ w.now) (h1 : w.now ≤ 2147483647) (hk : kind = 0 ∨ kind = 1 ∨ kind = 2) (r : SlRep h v l F) : RCalls Tryz.prog n_impl_belongs [.agg (w.cs v0 v1 v2), v, .int .i64 kind, .int .i64 slot] h (.bool (bp (∀ t ∈ l, slotP w.now kind slot t))) := by
  refine reader (c_impl_belongs _ _ _ _) (by simp only [old]) ?_
  unfold p_impl_belongs
  have hsm := r.small
  (repeat' first|refine vs ?_|(refine br ?_ ?_<;>intro _<;>try(exfalso;first|omega|contradiction))|((with_reducible refine g_idx ?_);((first|refine ix ?_|refine ixi ?_|(refine ixg ?_;intro _ _)|(refine ixgi ?_;intro _ _));first|rintro _ _ _ _ _ ⟨rfl,rfl⟩ _|rintro _ _ _ _ _ ⟨_,rfl,_⟩ _|rintro _ _ _ _ _ ⟨_,_,_,_,rfl,rfl,_,_⟩ _|intro _ _ _ _ _ _ _))|(refine sx ?_;intro _ _)|((with_reducible refine g_awp ?_);simp only [g0,g1,g2]))
  refine aw_upto l.length (fun i vs h1 => ∃ z, vs = [z, .int .i64 (i : Int)] ∧ i ≤ l.length ∧ Ext (h.push ⟨w.cs v0 v1 v2, 0, 0⟩) h1 ∧ Upto l (fun _ t => slotP w.now kind slot t) i) ⟨_, rfl, Nat.zero_le _, ext_auto, up0⟩ ?_
  rintro i vs h2 _ ⟨z, rfl, hi, e1, hu⟩
  simp only [g0, g1]
  refine br (fun hlt => ?_) (fun hge => ?_)
  · obtain ⟨x, hx, -, -⟩ := drop_step (show i < l.length by omega)
    (repeat' first|refine vs ?_|(refine br ?_ ?_<;>intro _<;>try(exfalso;first|omega|contradiction))|((with_reducible refine g_callf n_impl_within ?_);(refine aw_rcall_b s_impl_within ?_ ?_ <;> intro hb <;> (first | replace hb := inB_t hb | replace hb := inB_f hb)))|((with_reducible refine g_idx ?_);((first|refine ix ?_|refine ixi ?_|(refine ixg ?_;intro _ _)|(refine ixgi ?_;intro _ _));first|rintro _ _ _ _ _ ⟨rfl,rfl⟩ _|rintro _ _ _ _ _ ⟨_,rfl,_⟩ _|rintro _ _ _ _ _ ⟨_,_,_,_,rfl,rfl,_,_⟩ _|intro _ _ _ _ _ _ _))|(refine sx ?_;intro _ _)|((with_reducible refine g_awp ?_);simp only [g0,g1,g2]))
    all_goals (have t1 := tm8 (a := x.at_) ; have t2 := tm8 (a := x.at_ / 8))
    all_goals first
      | exact pf fun k => upNot hx (by unfold slotP; omega) k
      | exact ⟨by omega, _, rfl, by omega, ext_auto, upS hu hx (by unfold slotP; omega)⟩
  · (repeat' first|refine vs ?_|(refine br ?_ ?_<;>intro _<;>try(exfalso;first|omega|contradiction))|((with_reducible refine g_idx ?_);((first|refine ix ?_|refine ixi ?_|(refine ixg ?_;intro _ _)|(refine ixgi ?_;intro _ _));first|rintro _ _ _ _ _ ⟨rfl,rfl⟩ _|rintro _ _ _ _ _ ⟨_,rfl,_⟩ _|rintro _ _ _ _ _ ⟨_,_,_,_,rfl,rfl,_,_⟩ _|intro _ _ _ _ _ _ _))|(refine sx ?_;intro _ _)|((with_reducible refine g_awp ?_);simp only [g0,g1,g2]))
    rw [show i = l.length by omega] at hu
    exact pt (upAll hu)
theorem s_spec_l8Place {h : AH} {now at_ : Int} : 0 ≤ now → now ≤ 2147483647 → 0 ≤ at_ → at_ ≤ 2147483647 → RCalls Tryz.prog n_spec_l8Place [.int .i64 now, .int .i64 at_] h (.tup [.int .i64 (if at_ / 8 = now / 8 then 1 else if at_ / 8 - now / 8 < 8 then 2 else 3), .int .i64 (if at_ / 8 = now / 8 then at_ % 8 else if at_ / 8 - now / 8 < 8 then at_ / 8 % 8 else 0)]) := by
  intro h0 h1 h2 h3
  refine reader (c_spec_l8Place _ _) (by simp [old, olds]) ?_
  unfold p_spec_l8Place
  have t1 := tm8 (a := at_) h2
  have t2 := tm8 (a := at_ / 8) (by omega)
  (repeat' first|refine vs ?_|(refine br ?_ ?_<;>intro _<;>try(exfalso;first|omega|contradiction))|((with_reducible refine g_idx ?_);((first|refine ix ?_|refine ixi ?_|(refine ixg ?_;intro _ _)|(refine ixgi ?_;intro _ _));first|rintro _ _ _ _ _ ⟨rfl,rfl⟩ _|rintro _ _ _ _ _ ⟨_,rfl,_⟩ _|rintro _ _ _ _ _ ⟨_,_,_,_,rfl,rfl,_,_⟩ _|intro _ _ _ _ _ _ _))|(refine sx ?_;intro _ _)|((with_reducible refine g_awp ?_);simp only [g0,g1,g2]))
  all_goals (refine ⟨rfl, ?_, Ext.refl _⟩; first | (simp_all; done) | (simp_all; omega))
theorem s_spec_l8Slot {h : AH} {w : Wheel} {l : List Ab.Timer} {v v0 v1 v2 : AV} {F : List Nat} {kind slot k1 : Int} (h0 : 0 ≤ w.now) (h1 : w.now ≤ 2147483647) (hk : kind = 0 ∨ kind = 1 ∨ kind = 2 ∧ slot = 0) (hk1 : k1 = kind + 1) (r : SlRep h v l F) : RCalls Tryz.prog n_spec_l8Slot [.agg (w.cs v0 v1 v2), v, .int .i64 k1, .int .i64 slot] h (.bool (bp (∀ t ∈ l, slotP w.now kind slot t))) := by
  subst hk1
  refine reader (c_spec_l8Slot _ _ _ _) (by simp only [old]) ?_
  unfold p_spec_l8Slot
  have hsm := r.small
  (repeat' first|refine vs ?_|(refine br ?_ ?_<;>intro _<;>try(exfalso;first|omega|contradiction))|((with_reducible refine g_idx ?_);((first|refine ix ?_|refine ixi ?_|(refine ixg ?_;intro _ _)|(refine ixgi ?_;intro _ _));first|rintro _ _ _ _ _ ⟨rfl,rfl⟩ _|rintro _ _ _ _ _ ⟨_,rfl,_⟩ _|rintro _ _ _ _ _ ⟨_,_,_,_,rfl,rfl,_,_⟩ _|intro _ _ _ _ _ _ _))|(refine sx ?_;intro _ _)|((with_reducible refine g_awp ?_);simp only [g0,g1,g2]))
  refine aw_upto l.length (fun i vs h1 => vs = [.int .i64 (i : Int)] ∧ i ≤ l.length ∧ Ext (h.push ⟨w.cs v0 v1 v2, 0, 0⟩) h1 ∧ Upto l (fun _ t => slotP w.now kind slot t) i) ⟨rfl, Nat.zero_le _, ext_auto, up0⟩ ?_
  rintro i vs h2 _ ⟨rfl, hi, e1, hu⟩
  simp only [g0]
  refine vs ?_
  refine br (fun hlt => ?_) (fun hge => ?_)
  · obtain ⟨x, hx, -, -⟩ := drop_step (show i < l.length by omega)
    (repeat' first|refine vs ?_|(refine br ?_ ?_<;>intro _<;>try(exfalso;first|omega|contradiction))|((with_reducible refine g_callf n_spec_l1In ?_);(refine aw_rcall_b s_spec_l1In ?_ ?_ <;> intro hb <;> (first | replace hb := inB_t hb | replace hb := inB_f hb)))|((with_reducible refine g_callf n_spec_l8Place ?_);(refine aw_rcall (s_spec_l8Place (by omega) (by omega) (by omega) (by omega)) ?_))|((with_reducible refine g_idx ?_);((first|refine ix ?_|refine ixi ?_|(refine ixg ?_;intro _ _)|(refine ixgi ?_;intro _ _));first|rintro _ _ _ _ _ ⟨rfl,rfl⟩ _|rintro _ _ _ _ _ ⟨_,rfl,_⟩ _|rintro _ _ _ _ _ ⟨_,_,_,_,rfl,rfl,_,_⟩ _|intro _ _ _ _ _ _ _))|(refine sx ?_;intro _ _)|((with_reducible refine g_awp ?_);simp only [g0,g1,g2]))
    all_goals first
      | exact pf fun k => upNot hx (by unfold slotP; omega) k
      | exact ⟨by omega, rfl, by omega, ext_auto, upS hu hx (by unfold slotP; omega)⟩
  · (repeat' first|refine vs ?_|(refine br ?_ ?_<;>intro _<;>try(exfalso;first|omega|contradiction))|((with_reducible refine g_idx ?_);((first|refine ix ?_|refine ixi ?_|(refine ixg ?_;intro _ _)|(refine ixgi ?_;intro _ _));first|rintro _ _ _ _ _ ⟨rfl,rfl⟩ _|rintro _ _ _ _ _ ⟨_,rfl,_⟩ _|rintro _ _ _ _ _ ⟨_,_,_,_,rfl,rfl,_,_⟩ _|intro _ _ _ _ _ _ _))|(refine sx ?_;intro _ _)|((with_reducible refine g_awp ?_);simp only [g0,g1,g2]))
    rw [show i = l.length by omega] at hu
    exact pt (upAll hu)

/-! ### Which wheels may be -/
def isTid (k : Int) (t : Ab.Timer) : Bool := decide (t.id = k)
theorem s_timerAt_1 {h : AH} {b : Nat} {k : Int} (a : At h b 0 [.int .i64 k]) : Looks Ab.Timer Tryz.prog h n_impl_timerAt_1 [.ptr b 0] (isTid k) := by
  rintro x cs F ⟨rfl, rfl⟩
  refine reader (c_impl_timerAt_1 _ _) (by simp only [old]) ?_
  unfold p_impl_timerAt_1
  (repeat' first|refine vs ?_|(refine br ?_ ?_<;>intro _<;>try(exfalso;first|omega|contradiction))|((with_reducible refine g_idx ?_);((first|refine ix ?_|refine ixi ?_|(refine ixg ?_;intro _ _)|(refine ixgi ?_;intro _ _));first|rintro _ _ _ _ _ ⟨rfl,rfl⟩ _|rintro _ _ _ _ _ ⟨_,rfl,_⟩ _|rintro _ _ _ _ _ ⟨_,_,_,_,rfl,rfl,_,_⟩ _|intro _ _ _ _ _ _ _))|(refine sx ?_;intro _ _)|((with_reducible refine g_awp ?_);simp only [g0,g1,g2]))
  all_goals (refine pb ?_; simp [isTid, *])
theorem s_slices_IndexFunc_Timer {h : AH} {xs : List Ab.Timer} {x0 : AV} {F : List Nat} {f : FuncId} {caps : List AV} {p : Ab.Timer → Bool} (r : SlRep h x0 xs F) (hf : Looks Ab.Timer Tryz.prog h f caps p) :
    RCalls Tryz.prog n_slices_IndexFunc_Timer [x0, .fn f caps] h (.int .i64 (idx p xs)) :=
  reader (c_slices_IndexFunc_Timer _ _) (by simp only [old]) (idxF_spec (w := 3) rfl r hf)
theorem s_impl_timerAt {h : AH} {xs : List Ab.Timer} {x0 : AV} {F : List Nat} {k : Int} (r : SlRep h x0 xs F) : RCalls Tryz.prog n_impl_timerAt [x0, .int .i64 k] h (.int .i64 (idx (isTid k) xs)) := by
  refine reader (c_impl_timerAt _ _) (by simp only [old]) ?_
  unfold p_impl_timerAt
  (repeat' first|refine vs ?_|(refine br ?_ ?_<;>intro _<;>try(exfalso;first|omega|contradiction))|((with_reducible refine g_callf n_slices_IndexFunc_Timer ?_);refine aw_rcall (s_slices_IndexFunc_Timer slr_auto (s_timerAt_1 at_push)) ?_)|((with_reducible refine g_idx ?_);((first|refine ix ?_|refine ixi ?_|(refine ixg ?_;intro _ _)|(refine ixgi ?_;intro _ _));first|rintro _ _ _ _ _ ⟨rfl,rfl⟩ _|rintro _ _ _ _ _ ⟨_,rfl,_⟩ _|rintro _ _ _ _ _ ⟨_,_,_,_,rfl,rfl,_,_⟩ _|intro _ _ _ _ _ _ _))|(refine sx ?_;intro _ _)|((with_reducible refine g_awp ?_);simp only [g0,g1,g2]))
  exact pi rfl
def firstOf {α : Type} (f : α → Int) (l : List α) : Prop := ∀ (i : Nat) (x : α), l[i]? = some x → ∀ (j : Nat) (y : α), j < i → l[j]? = some y → f y ≠ f x
theorem idx_first {α : Type} {p : α → Bool} {l : List α} {i : Nat} {x : α} (hx : l[i]? = some x) (hp : p x = true) : idx p l = i ↔ ∀ (j : Nat) (y : α), j < i → l[j]? = some y → p y = false := by
  constructor
  · intro h j y hj hy
    rcases idx_cases p l with ⟨e, -⟩ | ⟨k, z, e, hz, hpz, hf⟩
    · omega
    · have : k = i := by omega
      subst this
      rw [List.filter_eq_self] at hf
      have hm : y ∈ l.take k := by
        rw [List.mem_iff_getElem?]
        exact ⟨j, by rw [List.getElem?_take, if_pos hj]; exact hy⟩
      simpa using hf y hm
  · exact fun h => idx_at hx hp h
def wheelOk (w : Wheel) : Prop := (0 ≤ w.now ∧ w.now ≤ 2147483647) ∧ (w.near.length : Int) = 8 ∧ (w.far.length : Int) = 8 ∧ (∀ t ∈ w.rest, slotP w.now 2 0 t) ∧
  (∀ (i : Nat) (a b : List Ab.Timer), w.near[i]? = some a → w.far[i]? = some b → (∀ t ∈ a, slotP w.now 0 i t) ∧ ∀ t ∈ b, slotP w.now 1 i t) ∧ firstOf (·.id) (timers w) ∧ ((timers w).length : Int) ≤ 16
theorem isTid_self (t : Ab.Timer) : isTid t.id t = true := by simp [isTid]
theorem s_impl_WheelOk {h : AH} {w : Wheel} {v0 v1 v2 : AV} {F0 F1 F2 : List Nat} (hs : Sz.sz w ≤ 67108864) (r0 : SlRep h v0 w.near F0) (r1 : SlRep h v1 w.far F1) (r2 : SlRep h v2 w.rest F2) : RCalls Tryz.prog n_impl_WheelOk [.agg (w.cs v0 v1 v2)] h (.bool (bp (wheelOk w))) := by
  refine reader (c_impl_WheelOk _) (by simp only [old]) ?_
  unfold p_impl_WheelOk
  (repeat' first|refine vs ?_|(refine br ?_ ?_<;>intro _<;>try(exfalso;first|omega|contradiction))|((with_reducible refine g_callf n_impl_within ?_);(refine aw_rcall_b s_impl_within ?_ ?_ <;> intro hb <;> (first | replace hb := inB_t hb | replace hb := inB_f hb)))|((with_reducible refine g_callf n_impl_belongs ?_);(refine aw_rcall_b (s_impl_belongs (w := w) (by omega) (by omega) (by omega) slr_auto) ?_ ?_ <;> intro hn <;> first | replace hn := bp_true hn | replace hn := bp_false hn))|((with_reducible refine g_idx ?_);((first|refine ix ?_|refine ixi ?_|(refine ixg ?_;intro _ _)|(refine ixgi ?_;intro _ _));first|rintro _ _ _ _ _ ⟨rfl,rfl⟩ _|rintro _ _ _ _ _ ⟨_,rfl,_⟩ _|rintro _ _ _ _ _ ⟨_,_,_,_,rfl,rfl,_,_⟩ _|intro _ _ _ _ _ _ _))|(refine sx ?_;intro _ _)|((with_reducible refine g_awp ?_);simp only [g0,g1,g2]))
  all_goals first
    | exact pf fun k => by obtain ⟨a1, a2, a3, a4, -⟩ := k; first | omega | contradiction
    | skip
  have hnow := hb
  have hrest := hn
  refine aw_upto 8 (fun i vs h1 => vs = [.int .i64 (i : Int)] ∧ i ≤ 8 ∧ Ext (h.push ⟨w.cs v0 v1 v2, 0, 0⟩) h1 ∧ ∀ (j : Nat) (a b : List Ab.Timer), j < i → w.near[j]? = some a → w.far[j]? = some b → (∀ t ∈ a, slotP w.now 0 j t) ∧ ∀ t ∈ b, slotP w.now 1 j t) ⟨rfl, Nat.zero_le _, ext_auto, fun j a b hj => by omega⟩ ?_
  rintro i vs h1 _ ⟨rfl, hi, e1, hu⟩
  simp only [g0]
  refine br (fun hlt => ?_) (fun hge => ?_)
  · obtain ⟨x, hx, -, -⟩ := drop_step (show i < w.near.length by omega)
    obtain ⟨y, hy, -, -⟩ := drop_step (show i < w.far.length by omega)
    (repeat' first|refine vs ?_|(refine br ?_ ?_<;>intro _<;>try(exfalso;first|omega|contradiction))|((with_reducible refine g_callf n_impl_belongs ?_);(refine aw_rcall_b (s_impl_belongs (w := w) (by omega) (by omega) (by omega) slr_auto) ?_ ?_ <;> intro hn <;> first | replace hn := bp_true hn | replace hn := bp_false hn))|((with_reducible refine g_idx ?_);((first|refine ix ?_|refine ixi ?_|(refine ixg ?_;intro _ _)|(refine ixgi ?_;intro _ _));first|rintro _ _ _ _ _ ⟨rfl,rfl⟩ _|rintro _ _ _ _ _ ⟨_,rfl,_⟩ _|rintro _ _ _ _ _ ⟨_,_,_,_,rfl,rfl,_,_⟩ _|intro _ _ _ _ _ _ _))|(refine sx ?_;intro _ _)|((with_reducible refine g_awp ?_);simp only [g0,g1,g2]))
    all_goals first
      | exact pf fun k => by have k := k.2.2.2.2.1 i x y hx hy; first | exact absurd k.1 (by assumption) | exact absurd k.2 (by assumption)
      | skip
    refine ⟨by omega, rfl, by omega, ext_auto, fun j a b hj ha hb => ?_⟩
    by_cases e : j = i
    · subst e; rw [hx] at ha; rw [hy] at hb; cases ha; cases hb
      exact ⟨by assumption, by assumption⟩
    · exact hu j a b (by omega) ha hb
  · (repeat' first|refine vs ?_|(refine br ?_ ?_<;>intro _<;>try(exfalso;first|omega|contradiction))|((with_reducible refine g_idx ?_);((first|refine ix ?_|refine ixi ?_|(refine ixg ?_;intro _ _)|(refine ixgi ?_;intro _ _));first|rintro _ _ _ _ _ ⟨rfl,rfl⟩ _|rintro _ _ _ _ _ ⟨_,rfl,_⟩ _|rintro _ _ _ _ _ ⟨_,_,_,_,rfl,rfl,_,_⟩ _|intro _ _ _ _ _ _ _))|(refine sx ?_;intro _ _)|((with_reducible refine g_awp ?_);simp only [g0,g1,g2]))
    refine aw_call (s_impl_Timers hs slr_auto slr_auto slr_auto) ?_
    rintro w1 h2 ⟨e2, G1, q1, o1⟩
    refine aw_len q1 ?_
    have hsm := q1.small
    refine aw_upto (timers w).length (fun i vs h3 => vs = [.int .i64 (i : Int)] ∧ i ≤ (timers w).length ∧ Ext h2 h3 ∧ Upto (timers w) (fun i x => ∀ (j : Nat) (y : Ab.Timer), j < i → (timers w)[j]? = some y → y.id ≠ x.id) i) ⟨rfl, Nat.zero_le _, Ext.refl _, up0⟩ ?_
    rintro k vs h3 _ ⟨rfl, hk, e3, hu3⟩
    simp only [g0]
    refine br (fun hlt => ?_) (fun hge3 => ?_)
    · obtain ⟨x, hx, -, -⟩ := drop_step (show k < (timers w).length by omega)
      have hf := idx_first hx (isTid_self x)
      refine vs ?_
      refine aw_idx q1 hx rfl ?_
      rintro b o _ Fi a ⟨rfl, rfl⟩ _
      (repeat' first|refine vs ?_|(refine br ?_ ?_<;>intro _<;>try(exfalso;first|omega|contradiction))|((with_reducible refine g_callf n_impl_timerAt ?_);refine aw_rcall (s_impl_timerAt slr_auto) ?_)|((with_reducible refine g_idx ?_);((first|refine ix ?_|refine ixi ?_|(refine ixg ?_;intro _ _)|(refine ixgi ?_;intro _ _));first|rintro _ _ _ _ _ ⟨rfl,rfl⟩ _|rintro _ _ _ _ _ ⟨_,rfl,_⟩ _|rintro _ _ _ _ _ ⟨_,_,_,_,rfl,rfl,_,_⟩ _|intro _ _ _ _ _ _ _))|(refine sx ?_;intro _ _)|((with_reducible refine g_awp ?_);simp only [g0,g1,g2]))
      · rename_i hne
        exact pf fun kk => hne (hf.2 fun j y hj hy => by have := kk.2.2.2.2.2.1 k x hx j y hj hy; simpa [isTid] using this)
      · rename_i heq
        exact ⟨by omega, rfl, by omega, ext_auto, upS hu3 hx fun j y hj hy => by have := hf.1 heq j y hj hy; simpa [isTid] using this⟩
    · rw [show k = (timers w).length by omega] at hu3
      have hu3 := upEnd hu3
      (repeat' first|refine vs ?_|(refine br ?_ ?_<;>intro _<;>try(exfalso;first|omega|contradiction))|((with_reducible refine g_idx ?_);((first|refine ix ?_|refine ixi ?_|(refine ixg ?_;intro _ _)|(refine ixgi ?_;intro _ _));first|rintro _ _ _ _ _ ⟨rfl,rfl⟩ _|rintro _ _ _ _ _ ⟨_,rfl,_⟩ _|rintro _ _ _ _ _ ⟨_,_,_,_,rfl,rfl,_,_⟩ _|intro _ _ _ _ _ _ _))|(refine sx ?_;intro _ _)|((with_reducible refine g_awp ?_);simp only [g0,g1,g2]))
      · exact pt ⟨hnow, by omega, by omega, hrest, fun i' a b ha hb => hu i' a b (by have := (List.getElem?_eq_some_iff.1 ha).1; omega) ha hb, hu3, by omega⟩
      · exact pf fun kk => by have := kk.2.2.2.2.2.2; omega
theorem s_spec_WheelOk {h : AH} {w : Wheel} {v0 v1 v2 : AV} {F0 F1 F2 : List Nat} (hs : Sz.sz w ≤ 67108864) (r0 : SlRep h v0 w.near F0) (r1 : SlRep h v1 w.far F1) (r2 : SlRep h v2 w.rest F2) : RCalls Tryz.prog n_spec_WheelOk [.agg (w.cs v0 v1 v2)] h (.bool (bp (wheelOk w))) := by
  refine reader (c_spec_WheelOk _) (by simp only [old]) ?_
  unfold p_spec_WheelOk
  (repeat' first|refine vs ?_|(refine br ?_ ?_<;>intro _<;>try(exfalso;first|omega|contradiction))|((with_reducible refine g_callf n_spec_l1In ?_);(refine aw_rcall_b s_spec_l1In ?_ ?_ <;> intro hb <;> (first | replace hb := inB_t hb | replace hb := inB_f hb)))|((with_reducible refine g_callf n_spec_l8Slot ?_);(refine aw_rcall_b (s_spec_l8Slot (w := w) (kind := 2) (by omega) (by omega) (by omega) (by rfl) slr_auto) ?_ ?_ <;> intro hn <;> first | replace hn := bp_true hn | replace hn := bp_false hn))|((with_reducible refine g_idx ?_);((first|refine ix ?_|refine ixi ?_|(refine ixg ?_;intro _ _)|(refine ixgi ?_;intro _ _));first|rintro _ _ _ _ _ ⟨rfl,rfl⟩ _|rintro _ _ _ _ _ ⟨_,rfl,_⟩ _|rintro _ _ _ _ _ ⟨_,_,_,_,rfl,rfl,_,_⟩ _|intro _ _ _ _ _ _ _))|(refine sx ?_;intro _ _)|((with_reducible refine g_awp ?_);simp only [g0,g1,g2]))
  all_goals first
    | exact pf fun k => by obtain ⟨a1, a2, a3, a4, -⟩ := k; first | omega | contradiction
    | skip
  have hnow := hb
  have hrest := hn
  refine aw_upto 8 (fun i vs h1 => vs = [.int .i64 (i : Int)] ∧ i ≤ 8 ∧ Ext (h.push ⟨w.cs v0 v1 v2, 0, 0⟩) h1 ∧ ∀ (j : Nat) (a b : List Ab.Timer), j < i → w.near[j]? = some a → w.far[j]? = some b → (∀ t ∈ a, slotP w.now 0 j t) ∧ ∀ t ∈ b, slotP w.now 1 j t) ⟨rfl, Nat.zero_le _, ext_auto, fun j a b hj => by omega⟩ ?_
  rintro i vs h1 _ ⟨rfl, hi, e1, hu⟩
  simp only [g0]
  refine br (fun hlt => ?_) (fun hge => ?_)
  · obtain ⟨x, hx, -, -⟩ := drop_step (show i < w.near.length by omega)
    obtain ⟨y, hy, -, -⟩ := drop_step (show i < w.far.length by omega)
    (repeat' first|refine vs ?_|(refine br ?_ ?_<;>intro _<;>try(exfalso;first|omega|contradiction))|((with_reducible refine g_callf n_spec_l8Slot ?_);((first | refine aw_rcall_b (s_spec_l8Slot (w := w) (kind := 0) (l := x) (by omega) (by omega) (by omega) (by rfl) slr_auto) ?_ ?_ | refine aw_rcall_b (s_spec_l8Slot (w := w) (kind := 1) (l := y) (by omega) (by omega) (by omega) (by rfl) slr_auto) ?_ ?_) <;> intro hn <;> first | replace hn := bp_true hn | replace hn := bp_false hn))|((with_reducible refine g_idx ?_);((first|refine ix ?_|refine ixi ?_|(refine ixg ?_;intro _ _)|(refine ixgi ?_;intro _ _));first|rintro _ _ _ _ _ ⟨rfl,rfl⟩ _|rintro _ _ _ _ _ ⟨_,rfl,_⟩ _|rintro _ _ _ _ _ ⟨_,_,_,_,rfl,rfl,_,_⟩ _|intro _ _ _ _ _ _ _))|(refine sx ?_;intro _ _)|((with_reducible refine g_awp ?_);simp only [g0,g1,g2]))
    all_goals first
      | exact pf fun k => by have k := k.2.2.2.2.1 i x y hx hy; first | exact absurd k.1 (by assumption) | exact absurd k.2 (by assumption)
      | skip
    refine ⟨by omega, rfl, by omega, ext_auto, fun j a b hj ha hb => ?_⟩
    by_cases e : j = i
    · subst e; rw [hx] at ha; rw [hy] at hb; cases ha; cases hb
      exact ⟨by assumption, by assumption⟩
    · exact hu j a b (by omega) ha hb
  · (repeat' first|refine vs ?_|(refine br ?_ ?_<;>intro _<;>try(exfalso;first|omega|contradiction))|((with_reducible refine g_idx ?_);((first|refine ix ?_|refine ixi ?_|(refine ixg ?_;intro _ _)|(refine ixgi ?_;intro _ _));first|rintro _ _ _ _ _ ⟨rfl,rfl⟩ _|rintro _ _ _ _ _ ⟨_,rfl,_⟩ _|rintro _ _ _ _ _ ⟨_,_,_,_,rfl,rfl,_,_⟩ _|intro _ _ _ _ _ _ _))|(refine sx ?_;intro _ _)|((with_reducible refine g_awp ?_);simp only [g0,g1,g2]))
    refine aw_call (s_spec_Timers hs slr_auto slr_auto slr_auto) ?_
    rintro w1 h2 ⟨e2, G1, q1, o1⟩
    have hsm := q1.small
    refine aw_upto (timers w).length (fun i vs h3 => ∃ z, vs = [.int .i64 (i : Int), z] ∧ i ≤ (timers w).length ∧ h3 = h2 ∧ Upto (timers w) (fun i x => ∀ (j : Nat) (y : Ab.Timer), j < i → (timers w)[j]? = some y → y.id ≠ x.id) i) ⟨_, rfl, Nat.zero_le _, rfl, up0⟩ ?_
    rintro k vs h3 _ ⟨z, rfl, hk, rfl, hu3⟩
    simp only [g0]
    refine aw_len q1 ?_
    refine br (fun hlt => ?_) (fun hge3 => ?_)
    · obtain ⟨x, hx, -, -⟩ := drop_step (show k < (timers w).length by omega)
      refine aw_ite_t ?_
      refine aw_upto k (fun j vs h4 => vs = [.int .i64 (j : Int)] ∧ j ≤ k ∧ h4 = h3 ∧ ∀ (m : Nat) (y : Ab.Timer), m < j → (timers w)[m]? = some y → y.id ≠ x.id) ⟨rfl, Nat.zero_le _, rfl, fun m y hm => by omega⟩ ?_
      rintro j vs h4 _ ⟨rfl, hj, rfl, hu4⟩
      simp only [g0]
      refine br (fun hlt4 => ?_) (fun hge4 => ?_)
      · obtain ⟨y, hy, -, -⟩ := drop_step (show j < (timers w).length by omega)
        (repeat' first|refine vs ?_|(refine br ?_ ?_<;>intro _<;>try(exfalso;first|omega|contradiction))|((with_reducible refine g_idx ?_);((first|refine ix ?_|refine ixi ?_|(refine ixg ?_;intro _ _)|(refine ixgi ?_;intro _ _));first|rintro _ _ _ _ _ ⟨rfl,rfl⟩ _|rintro _ _ _ _ _ ⟨_,rfl,_⟩ _|rintro _ _ _ _ _ ⟨_,_,_,_,rfl,rfl,_,_⟩ _|intro _ _ _ _ _ _ _))|(refine sx ?_;intro _ _)|((with_reducible refine g_awp ?_);simp only [g0,g1,g2]))
        · rename_i he
          exact pf fun kk => kk.2.2.2.2.2.1 k x hx j y (by omega) hy he
        · rename_i he
          refine ⟨by omega, rfl, by omega, rfl, fun m z hm hz => ?_⟩
          by_cases e : m = j
          · subst e; rw [hy] at hz; cases hz; exact he
          · exact hu4 m z (by omega) hz
      · have e : j = k := by omega
        subst e
        (repeat' first|refine vs ?_|(refine br ?_ ?_<;>intro _<;>try(exfalso;first|omega|contradiction))|((with_reducible refine g_idx ?_);((first|refine ix ?_|refine ixi ?_|(refine ixg ?_;intro _ _)|(refine ixgi ?_;intro _ _));first|rintro _ _ _ _ _ ⟨rfl,rfl⟩ _|rintro _ _ _ _ _ ⟨_,rfl,_⟩ _|rintro _ _ _ _ _ ⟨_,_,_,_,rfl,rfl,_,_⟩ _|intro _ _ _ _ _ _ _))|(refine sx ?_;intro _ _)|((with_reducible refine g_awp ?_);simp only [g0,g1,g2]))
        exact ⟨by omega, _, rfl, by omega, rfl, upS hu3 hx hu4⟩
    · rw [show k = (timers w).length by omega] at hu3
      have hu3 := upEnd hu3
      (repeat' first|refine vs ?_|(refine br ?_ ?_<;>intro _<;>try(exfalso;first|omega|contradiction))|((with_reducible refine g_idx ?_);((first|refine ix ?_|refine ixi ?_|(refine ixg ?_;intro _ _)|(refine ixgi ?_;intro _ _));first|rintro _ _ _ _ _ ⟨rfl,rfl⟩ _|rintro _ _ _ _ _ ⟨_,rfl,_⟩ _|rintro _ _ _ _ _ ⟨_,_,_,_,rfl,rfl,_,_⟩ _|intro _ _ _ _ _ _ _))|(refine sx ?_;intro _ _)|((with_reducible refine g_awp ?_);simp only [g0,g1,g2]))
      · exact pt ⟨hnow, by omega, by omega, hrest, fun i' a b ha hb => hu i' a b (by have := (List.getElem?_eq_some_iff.1 ha).1; omega) ha hb, hu3, by omega⟩
      · exact pf fun kk => by have := kk.2.2.2.2.2.2; omega
end Go.Proofs.YtjnekdbdmoibgaaGreat
end
section
/- What is remembered, buckets, items: which may be. -/
set_option linter.unusedSimpArgs false
set_option linter.unusedVariables false
set_option maxHeartbeats 2000000
namespace Go.Proofs.YtjnekdbdmoibgaaGreat
open Go Go.Ab
section
/- impl.verdictAt$1 -/
def p_impl_verdictAt_1 (x0 x1 : AV) : Prog := .op (.box x0) fun v1 => .op (.fad 0 v1) fun v2 => .op (.ld1 v2) fun v3 => .op (.ld1 x1) fun v4 => .op (.bin 0 .eql v3 v4) fun v5 => .fin [.val v5]
theorem c_impl_verdictAt_1 (x0 x1 : AV) : CC Tryz.prog n_impl_verdictAt_1 [x0, x1] (p_impl_verdictAt_1 x0 x1) := cc Tryz.func317 [] (fun _ => []) (by kernel_rfl)
/- slices.IndexFunc[[]impl.Verdict,impl.Verdict] -/
def p_slices_IndexFunc_Verdict (x0 x1 : AV) : Prog := .op (.len 0 x0) fun v1 => .loop [AV.int .i64 0] (fun vs2 => .op (.bin 0 .lss (g vs2 0) v1) fun v4 => .ite v4 (.op (.idx 3 x0 (g vs2 0)) fun v5 => .op (.ldn 3 v5) fun v6 => .op (.callv x1 [v6]) fun v7 => .ite v7 (.fin [.val (g vs2 0)]) (.op (.bin 0 .add (g vs2 0) (AV.int .i64 1)) fun v8 => .leaf 0 [v8])) (.leaf 2 [g vs2 0])) fun t3 vs2 => tsel t3 1 (.leaf 1 vs2) (tsel t3 2 (.fin [.val (AV.int .i64 (-1))]) .bad)
theorem c_slices_IndexFunc_Verdict (x0 x1 : AV) : CC Tryz.prog n_slices_IndexFunc_Verdict [x0, x1] (p_slices_IndexFunc_Verdict x0 x1) := cc Tryz.func316 [0, 1, 7, 8] (fun _ => []) (by kernel_rfl)
/- impl.verdictAt -/
def p_impl_verdictAt (x0 x1 : AV) : Prog := .op (.box x1) fun v1 => .op (.mkfn n_impl_verdictAt_1 [v1]) fun v2 => .op (.call n_slices_IndexFunc_Verdict [x0, v2]) fun v3 => .fin [.val v3]
theorem c_impl_verdictAt (x0 x1 : AV) : CC Tryz.prog n_impl_verdictAt [x0, x1] (p_impl_verdictAt x0 x1) := cc Tryz.func254 [] (fun _ => []) (by kernel_rfl)
/- impl.CacheOk -/
def p_impl_CacheOk (x0 x1 : AV) : Prog := .op (.len 0 x0) fun v1 => .loop [AV.int .i64 0] (fun vs2 => .op (.bin 0 .lss (g vs2 0) v1) fun v4 => .ite v4 (.op (.idx 3 x0 (g vs2 0)) fun v5 => .op (.ldn 3 v5) fun v6 => .op (.alloc [AV.int .i64 0, AV.int .i64 0, AV.bool false]) fun v7 => .op (.st 3 v7 v6) fun v8 => .op (.fad 0 v7) fun v9 => .op (.ld1 v9) fun v10 => .op (.call n_impl_within [v10, AV.int .i64 1, AV.int .i64 999]) fun v11 => .op (.una .not v11) fun v12 => .gop v12 false (.fad 1 v7) fun v13 => .gop v12 false (.ld1 v13) fun v14 => .gop v12 false (.bin 0 .lss v14 (AV.int .i64 1)) fun v15 => .op (.pick v12 (AV.bool true) v15) fun v16 => .gop v16 false (.mv x0) fun v17 => .gop v16 false (.fad 0 v7) fun v18 => .gop v16 false (.ld1 v18) fun v19 => .gop v16 false (.call n_impl_verdictAt [v17, v19]) fun v20 => .gop v16 false (.mv (g vs2 0)) fun v21 => .gop v16 false (.bin 0 .neq v20 v21) fun v22 => .op (.pick v16 (AV.bool true) v22) fun v23 => .ite v23 (.fin [.val (AV.bool false)]) (.op (.bin 0 .add (g vs2 0) (AV.int .i64 1)) fun v24 => .leaf 0 [v24])) (.leaf 2 [g vs2 0])) fun t3 vs2 => tsel t3 1 (.leaf 1 vs2) (tsel t3 2 (.op (.len 0 x0) fun v25 => .op (.bin 0 .leq v25 x1) fun v26 => .fin [.val v26]) .bad)
theorem c_impl_CacheOk (x0 x1 : AV) : CC Tryz.prog n_impl_CacheOk [x0, x1] (p_impl_CacheOk x0 x1) := cc Tryz.func216 [0, 1, 7, 8, 9] (fun _ => []) (by kernel_rfl)
/- spec.CacheOk -/
def p_spec_CacheOk (x0 x1 : AV) : Prog := .loop [AV.int .i64 0, .tup []] (fun vs1 => .op (.len 0 x0) fun v3 => .op (.bin 0 .lss (g vs1 0) v3) fun v4 => .ite v4 (.op (.idx 3 x0 (g vs1 0)) fun v5 => .op (.fad 0 v5) fun v6 => .op (.ld1 v6) fun v7 => .op (.call n_spec_l1In [v7, AV.int .i64 1, AV.int .i64 999]) fun v8 => .op (.una .not v8) fun v9 => .gop v9 false (.mv x0) fun v10 => .gop v9 false (.mv (g vs1 0)) fun v11 => .gop v9 false (.idx 3 v10 v11) fun v12 => .gop v9 false (.fad 1 v12) fun v13 => .gop v9 false (.ld1 v13) fun v14 => .gop v9 false (.bin 0 .lss v14 (AV.int .i64 1)) fun v15 => .op (.pick v9 (AV.bool true) v15) fun v16 => .ite v16 (.fin [.val (AV.bool false)]) (.loop [AV.int .i64 0] (fun vs17 => .op (.bin 0 .lss (g vs17 0) (g vs1 0)) fun v19 => .ite v19 (.op (.idx 3 x0 (g vs17 0)) fun v20 => .op (.fad 0 v20) fun v21 => .op (.ld1 v21) fun v22 => .op (.idx 3 x0 (g vs1 0)) fun v23 => .op (.fad 0 v23) fun v24 => .op (.ld1 v24) fun v25 => .op (.bin 0 .eql v22 v25) fun v26 => .ite v26 (.fin [.val (AV.bool false)]) (.op (.bin 0 .add (g vs17 0) (AV.int .i64 1)) fun v27 => .leaf 0 [v27])) (.leaf 4 [g vs17 0])) fun t18 vs17 => tsel t18 1 (.leaf 1 vs17) (tsel t18 4 (.op (.bin 0 .add (g vs1 0) (AV.int .i64 1)) fun v28 => .leaf 0 [v28, g vs17 0]) .bad))) (.leaf 2 [g vs1 0, g vs1 1])) fun t2 vs1 => tsel t2 1 (.leaf 1 vs1) (tsel t2 2 (.op (.len 0 x0) fun v29 => .op (.bin 0 .leq v29 x1) fun v30 => .fin [.val v30]) .bad)
theorem c_spec_CacheOk (x0 x1 : AV) : CC Tryz.prog n_spec_CacheOk [x0, x1] (p_spec_CacheOk x0 x1) := cc Tryz.func116 [0, 1, 5, 6] (fun r => if r = 9 then [(0, []), (1, []), (2, []), (3, []), (4, []), (5, []), (6, []), (7, []), (8, []), (9, []), (10, [])] else []) (by kernel_rfl)
/- impl.BucketOk -/
def p_impl_BucketOk (x0 : AV) : Prog := .op (.box x0) fun v1 => .op (.fad 0 v1) fun v2 => .op (.ld1 v2) fun v3 => .op (.call n_impl_within [v3, AV.int .i64 0, AV.int .i64 99]) fun v4 => .gop v4 true (.fad 1 v1) fun v5 => .gop v4 true (.ld1 v5) fun v6 => .gop v4 true (.call n_impl_within [v6, AV.int .i64 0, AV.int .i64 999]) fun v7 => .op (.pick v4 v7 (AV.bool false)) fun v8 => .gop v8 true (.fad 2 v1) fun v9 => .gop v8 true (.ld1 v9) fun v10 => .gop v8 true (.fad 1 v1) fun v11 => .gop v8 true (.ld1 v11) fun v12 => .gop v8 true (.call n_impl_within [v10, AV.int .i64 0, v12]) fun v13 => .op (.pick v8 v13 (AV.bool false)) fun v14 => .gop v14 true (.fad 3 v1) fun v15 => .gop v14 true (.ld1 v15) fun v16 => .gop v14 true (.call n_impl_within [v16, AV.int .i64 0, AV.int .i64 2147483647]) fun v17 => .op (.pick v14 v17 (AV.bool false)) fun v18 => .fin [.val v18]
theorem c_impl_BucketOk (x0 : AV) : CC Tryz.prog n_impl_BucketOk [x0] (p_impl_BucketOk x0) := cc Tryz.func215 [] (fun _ => []) (by kernel_rfl)
/- spec.BucketOk -/
def p_spec_BucketOk (x0 : AV) : Prog := .op (.box x0) fun v1 => .op (.fad 0 v1) fun v2 => .op (.ld1 v2) fun v3 => .op (.call n_spec_l1In [v3, AV.int .i64 0, AV.int .i64 99]) fun v4 => .gop v4 true (.fad 1 v1) fun v5 => .gop v4 true (.ld1 v5) fun v6 => .gop v4 true (.call n_spec_l1In [v6, AV.int .i64 0, AV.int .i64 999]) fun v7 => .op (.pick v4 v7 (AV.bool false)) fun v8 => .gop v8 true (.fad 2 v1) fun v9 => .gop v8 true (.ld1 v9) fun v10 => .gop v8 true (.fad 1 v1) fun v11 => .gop v8 true (.ld1 v11) fun v12 => .gop v8 true (.call n_spec_l1In [v10, AV.int .i64 0, v12]) fun v13 => .op (.pick v8 v13 (AV.bool false)) fun v14 => .gop v14 true (.fad 3 v1) fun v15 => .gop v14 true (.ld1 v15) fun v16 => .gop v14 true (.call n_spec_l1In [v16, AV.int .i64 0, AV.int .i64 2147483647]) fun v17 => .op (.pick v14 v17 (AV.bool false)) fun v18 => .fin [.val v18]
theorem c_spec_BucketOk (x0 : AV) : CC Tryz.prog n_spec_BucketOk [x0] (p_spec_BucketOk x0) := cc Tryz.func115 [] (fun _ => []) (by kernel_rfl)
/- impl.itemsOk$1 -/
def p_impl_itemsOk_1 (x0 : AV) : Prog := .op (.box x0) fun v1 => .op (.ldn 7 v1) fun v2 => .op (.call n_impl_ItemOk [v2]) fun v3 => .op (.una .not v3) fun v4 => .fin [.val v4]
theorem c_impl_itemsOk_1 (x0 : AV) : CC Tryz.prog n_impl_itemsOk_1 [x0] (p_impl_itemsOk_1 x0) := cc Tryz.func287 [] (fun _ => []) (by kernel_rfl)
/- slices.IndexFunc[[]impl.Item,impl.Item] -/
def p_slices_IndexFunc_Item (x0 x1 : AV) : Prog := .op (.len 0 x0) fun v1 => .loop [AV.int .i64 0] (fun vs2 => .op (.bin 0 .lss (g vs2 0) v1) fun v4 => .ite v4 (.op (.idx 7 x0 (g vs2 0)) fun v5 => .op (.ldn 7 v5) fun v6 => .op (.callv x1 [v6]) fun v7 => .ite v7 (.fin [.val (g vs2 0)]) (.op (.bin 0 .add (g vs2 0) (AV.int .i64 1)) fun v8 => .leaf 0 [v8])) (.leaf 2 [g vs2 0])) fun t3 vs2 => tsel t3 1 (.leaf 1 vs2) (tsel t3 2 (.fin [.val (AV.int .i64 (-1))]) .bad)
theorem c_slices_IndexFunc_Item (x0 x1 : AV) : CC Tryz.prog n_slices_IndexFunc_Item [x0, x1] (p_slices_IndexFunc_Item x0 x1) := cc Tryz.func333 [0, 1, 7, 8] (fun _ => []) (by kernel_rfl)
/- slices.ContainsFunc[[]impl.Item,impl.Item] -/
def p_slices_ContainsFunc_Item (x0 x1 : AV) : Prog := .op (.call n_slices_IndexFunc_Item [x0, x1]) fun v1 => .op (.bin 0 .geq v1 (AV.int .i64 0)) fun v2 => .fin [.val v2]
theorem c_slices_ContainsFunc_Item (x0 x1 : AV) : CC Tryz.prog n_slices_ContainsFunc_Item [x0, x1] (p_slices_ContainsFunc_Item x0 x1) := cc Tryz.func286 [] (fun _ => []) (by kernel_rfl)
/- impl.itemsOk -/
def p_impl_itemsOk (x0 : AV) : Prog := .op (.call n_slices_ContainsFunc_Item [x0, AV.fn n_impl_itemsOk_1 []]) fun v1 => .op (.una .not v1) fun v2 => .fin [.val v2]
theorem c_impl_itemsOk (x0 : AV) : CC Tryz.prog n_impl_itemsOk [x0] (p_impl_itemsOk x0) := cc Tryz.func218 [] (fun _ => []) (by kernel_rfl)
end
def isT (k : Int) (v : Verdict) : Bool := decide (v.trace = k)
theorem s_verdictAt_1 {h : AH} {b : Nat} {k : Int} (a : At h b 0 [.int .i64 k]) : Looks Verdict Tryz.prog h n_impl_verdictAt_1 [.ptr b 0] (isT k) := by
  rintro x cs F ⟨rfl, rfl⟩
  refine reader (c_impl_verdictAt_1 _ _) (by simp only [old]) ?_
  unfold p_impl_verdictAt_1
  (repeat' first|refine vs ?_|(refine br ?_ ?_<;>intro _<;>try(exfalso;first|omega|contradiction))|((with_reducible refine g_idx ?_);((first|refine ix ?_|refine ixi ?_|(refine ixg ?_;intro _ _)|(refine ixgi ?_;intro _ _));first|rintro _ _ _ _ _ ⟨rfl,rfl⟩ _|rintro _ _ _ _ _ ⟨_,rfl,_⟩ _|rintro _ _ _ _ _ ⟨_,_,_,_,rfl,rfl,_,_⟩ _|intro _ _ _ _ _ _ _))|(refine sx ?_;intro _ _)|((with_reducible refine g_awp ?_);simp only [g0,g1,g2]))
  all_goals (refine pb ?_; simp [isT, *])
theorem s_slices_IndexFunc_Verdict {h : AH} {xs : List Verdict} {x0 : AV} {F : List Nat} {f : FuncId} {caps : List AV} {p : Verdict → Bool} (r : SlRep h x0 xs F) (hf : Looks Verdict Tryz.prog h f caps p) :
    RCalls Tryz.prog n_slices_IndexFunc_Verdict [x0, .fn f caps] h (.int .i64 (idx p xs)) :=
  reader (c_slices_IndexFunc_Verdict _ _) (by simp only [old]) (idxF_spec (w := 3) rfl r hf)
theorem s_impl_verdictAt {h : AH} {xs : List Verdict} {x0 : AV} {F : List Nat} {k : Int} (r : SlRep h x0 xs F) : RCalls Tryz.prog n_impl_verdictAt [x0, .int .i64 k] h (.int .i64 (idx (isT k) xs)) := by
  refine reader (c_impl_verdictAt _ _) (by simp only [old]) ?_
  unfold p_impl_verdictAt
  (repeat' first|refine vs ?_|(refine br ?_ ?_<;>intro _<;>try(exfalso;first|omega|contradiction))|((with_reducible refine g_callf n_slices_IndexFunc_Verdict ?_);refine aw_rcall (s_slices_IndexFunc_Verdict slr_auto (s_verdictAt_1 at_push)) ?_)|((with_reducible refine g_idx ?_);((first|refine ix ?_|refine ixi ?_|(refine ixg ?_;intro _ _)|(refine ixgi ?_;intro _ _));first|rintro _ _ _ _ _ ⟨rfl,rfl⟩ _|rintro _ _ _ _ _ ⟨_,rfl,_⟩ _|rintro _ _ _ _ _ ⟨_,_,_,_,rfl,rfl,_,_⟩ _|intro _ _ _ _ _ _ _))|(refine sx ?_;intro _ _)|((with_reducible refine g_awp ?_);simp only [g0,g1,g2]))
  exact pi rfl
def cAt (xs : List Verdict) (i : Nat) (v : Verdict) : Prop := (1 ≤ v.trace ∧ v.trace ≤ 999) ∧ 1 ≤ v.stamp ∧ ∀ j u, j < i → xs[j]? = some u → u.trace ≠ v.trace
def cOk (xs : List Verdict) (k : Int) : Prop := (∀ i v, xs[i]? = some v → cAt xs i v) ∧ (xs.length : Int) ≤ k
theorem idx_firstT {xs : List Verdict} {i : Nat} {x : Verdict} (hx : xs[i]? = some x) : idx (isT x.trace) xs = i ↔ ∀ j u, j < i → xs[j]? = some u → u.trace ≠ x.trace := by
  constructor
  · intro h j u hj hu he
    unfold idx at h
    split at h
    · have : j < xs.findIdx (isT x.trace) := by omega
      have := List.not_of_lt_findIdx this
      have hj' := (List.getElem?_eq_some_iff.1 hu)
      rw [hj'.2] at this
      simp [isT, he] at this
    · omega
  · intro h
    exact idx_at hx (by simp [isT]) fun j u hj hu => by simpa [isT] using h j u hj hu
theorem s_impl_CacheOk {h : AH} {xs : List Verdict} {x0 : AV} {F : List Nat} {k : Int} (r : SlRep h x0 xs F) : RCalls Tryz.prog n_impl_CacheOk [x0, .int .i64 k] h (.bool (bp (cOk xs k))) := by
  refine reader (c_impl_CacheOk _ _) (by simp only [old]) ?_
  unfold p_impl_CacheOk
  have hsm := r.small
  refine aw_len r (aw_upto xs.length (fun i vs h1 => vs = [.int .i64 (i : Int)] ∧ i ≤ xs.length ∧ Ext h h1 ∧ Upto xs (cAt xs) i) ⟨rfl, Nat.zero_le _, Ext.refl _, up0⟩ ?_)
  rintro i vs h1 _ ⟨rfl, hi, e1, hu⟩
  simp only [g0]
  refine br (fun hlt => ?_) (fun hge => ?_)
  · obtain ⟨x, hx, -, -⟩ := drop_step (show i < xs.length by omega)
    have hf := idx_firstT hx
    (repeat' first|refine vs ?_|(refine br ?_ ?_<;>intro _<;>try(exfalso;first|omega|contradiction))|((with_reducible refine g_callf n_impl_within ?_);(refine aw_rcall_b s_impl_within ?_ ?_ <;> intro hb <;> (first | replace hb := inB_t hb | replace hb := inB_f hb)))|((with_reducible refine g_callf n_impl_verdictAt ?_);refine aw_rcall (s_impl_verdictAt slr_auto) ?_)|((with_reducible refine g_idx ?_);((first|refine ix ?_|refine ixi ?_|(refine ixg ?_;intro _ _)|(refine ixgi ?_;intro _ _));first|rintro _ _ _ _ _ ⟨rfl,rfl⟩ _|rintro _ _ _ _ _ ⟨_,rfl,_⟩ _|rintro _ _ _ _ _ ⟨_,_,_,_,rfl,rfl,_,_⟩ _|intro _ _ _ _ _ _ _))|(refine sx ?_;intro _ _)|((with_reducible refine g_awp ?_);simp only [g0,g1,g2]))
    all_goals first
      | exact ⟨by omega, rfl, by omega, ext_auto, upS hu hx ⟨by omega, by omega, hf.1 (by assumption)⟩⟩
      | (refine pf fun k => ?_; obtain ⟨a1, a2, a3⟩ := k.1 i x hx; first | omega | (have := hf.2 a3; contradiction))
  · rw [show i = xs.length by omega] at hu
    have hu := upEnd hu
    (repeat' first|refine vs ?_|(refine br ?_ ?_<;>intro _<;>try(exfalso;first|omega|contradiction))|((with_reducible refine g_idx ?_);((first|refine ix ?_|refine ixi ?_|(refine ixg ?_;intro _ _)|(refine ixgi ?_;intro _ _));first|rintro _ _ _ _ _ ⟨rfl,rfl⟩ _|rintro _ _ _ _ _ ⟨_,rfl,_⟩ _|rintro _ _ _ _ _ ⟨_,_,_,_,rfl,rfl,_,_⟩ _|intro _ _ _ _ _ _ _))|(refine sx ?_;intro _ _)|((with_reducible refine g_awp ?_);simp only [g0,g1,g2]))
    all_goals first
      | exact pt ⟨hu, by omega⟩
      | exact pf fun k => by have := k.2; omega
theorem s_spec_CacheOk {h : AH} {xs : List Verdict} {x0 : AV} {F : List Nat} {k : Int} (r : SlRep h x0 xs F) : RCalls Tryz.prog n_spec_CacheOk [x0, .int .i64 k] h (.bool (bp (cOk xs k))) := by
  refine reader (c_spec_CacheOk _ _) (by simp only [old]) ?_
  unfold p_spec_CacheOk
  have hsm := r.small
  refine aw_upto xs.length (fun i vs h1 => ∃ z, vs = [.int .i64 (i : Int), z] ∧ i ≤ xs.length ∧ h1 = h ∧ Upto xs (cAt xs) i) ⟨_, rfl, Nat.zero_le _, rfl, up0⟩ ?_
  rintro i vs h1 _ ⟨z, rfl, hi, rfl, hu⟩
  simp only [g0, g1]
  refine aw_len r ?_
  refine br (fun hlt => ?_) (fun hge => ?_)
  · obtain ⟨x, hx, -, -⟩ := drop_step (show i < xs.length by omega)
    refine aw_ite_t ?_
    (repeat' first|refine vs ?_|(refine br ?_ ?_<;>intro _<;>try(exfalso;first|omega|contradiction))|((with_reducible refine g_callf n_spec_l1In ?_);(refine aw_rcall_b s_spec_l1In ?_ ?_ <;> intro hb <;> (first | replace hb := inB_t hb | replace hb := inB_f hb)))|((with_reducible refine g_idx ?_);((first|refine ix ?_|refine ixi ?_|(refine ixg ?_;intro _ _)|(refine ixgi ?_;intro _ _));first|rintro _ _ _ _ _ ⟨rfl,rfl⟩ _|rintro _ _ _ _ _ ⟨_,rfl,_⟩ _|rintro _ _ _ _ _ ⟨_,_,_,_,rfl,rfl,_,_⟩ _|intro _ _ _ _ _ _ _))|(refine sx ?_;intro _ _)|((with_reducible refine g_awp ?_);simp only [g0,g1,g2]))
    all_goals first
      | (refine pf fun k => ?_; obtain ⟨a1, a2, a3⟩ := k.1 i x hx; omega)
      | skip
    refine aw_upto i (fun j vs h4 => vs = [.int .i64 (j : Int)] ∧ j ≤ i ∧ h4 = h1 ∧ ∀ (m : Nat) (y : Verdict), m < j → xs[m]? = some y → y.trace ≠ x.trace) ⟨rfl, Nat.zero_le _, rfl, fun m y hm => by omega⟩ ?_
    rintro j vs h4 _ ⟨rfl, hj, rfl, hu4⟩
    simp only [g0]
    refine br (fun hlt4 => ?_) (fun hge4 => ?_)
    · obtain ⟨y, hy, -, -⟩ := drop_step (show j < xs.length by omega)
      (repeat' first|refine vs ?_|(refine br ?_ ?_<;>intro _<;>try(exfalso;first|omega|contradiction))|((with_reducible refine g_idx ?_);((first|refine ix ?_|refine ixi ?_|(refine ixg ?_;intro _ _)|(refine ixgi ?_;intro _ _));first|rintro _ _ _ _ _ ⟨rfl,rfl⟩ _|rintro _ _ _ _ _ ⟨_,rfl,_⟩ _|rintro _ _ _ _ _ ⟨_,_,_,_,rfl,rfl,_,_⟩ _|intro _ _ _ _ _ _ _))|(refine sx ?_;intro _ _)|((with_reducible refine g_awp ?_);simp only [g0,g1,g2]))
      · rename_i he
        exact pf fun kk => (kk.1 i x hx).2.2 j y (by omega) hy he
      · rename_i he
        refine ⟨by omega, rfl, by omega, rfl, fun m z hm hz => ?_⟩
        by_cases e : m = j
        · subst e; rw [hy] at hz; cases hz; exact he
        · exact hu4 m z (by omega) hz
    · have e : j = i := by omega
      subst e
      (repeat' first|refine vs ?_|(refine br ?_ ?_<;>intro _<;>try(exfalso;first|omega|contradiction))|((with_reducible refine g_idx ?_);((first|refine ix ?_|refine ixi ?_|(refine ixg ?_;intro _ _)|(refine ixgi ?_;intro _ _));first|rintro _ _ _ _ _ ⟨rfl,rfl⟩ _|rintro _ _ _ _ _ ⟨_,rfl,_⟩ _|rintro _ _ _ _ _ ⟨_,_,_,_,rfl,rfl,_,_⟩ _|intro _ _ _ _ _ _ _))|(refine sx ?_;intro _ _)|((with_reducible refine g_awp ?_);simp only [g0,g1,g2]))
      exact ⟨by omega, _, rfl, by omega, rfl, upS hu hx ⟨by omega, by omega, hu4⟩⟩
  · rw [show i = xs.length by omega] at hu
    have hu := upEnd hu
    (repeat' first|refine vs ?_|(refine br ?_ ?_<;>intro _<;>try(exfalso;first|omega|contradiction))|((with_reducible refine g_idx ?_);((first|refine ix ?_|refine ixi ?_|(refine ixg ?_;intro _ _)|(refine ixgi ?_;intro _ _));first|rintro _ _ _ _ _ ⟨rfl,rfl⟩ _|rintro _ _ _ _ _ ⟨_,rfl,_⟩ _|rintro _ _ _ _ _ ⟨_,_,_,_,rfl,rfl,_,_⟩ _|intro _ _ _ _ _ _ _))|(refine sx ?_;intro _ _)|((with_reducible refine g_awp ?_);simp only [g0,g1,g2]))
    all_goals first
      | exact pt ⟨hu, by omega⟩
      | exact pf fun k => by have := k.2; omega

/-! ### Buckets -/
def bucketOk (b : Bucket) : Prop := (0 ≤ b.rate ∧ b.rate ≤ 99) ∧ (0 ≤ b.burst ∧ b.burst ≤ 999) ∧ (0 ≤ b.tokens ∧ b.tokens ≤ b.burst) ∧ (0 ≤ b.at_ ∧ b.at_ ≤ 2147483647)
theorem s_impl_BucketOk {h : AH} {b : Bucket} : RCalls Tryz.prog n_impl_BucketOk [.agg b.cs] h (.bool (bp (bucketOk b))) := by
  refine reader (c_impl_BucketOk _) (by simp only [old, Bucket.cs, olds, and_self]) ?_
  unfold p_impl_BucketOk
  (repeat' first|refine vs ?_|(refine br ?_ ?_<;>intro _<;>try(exfalso;first|omega|contradiction))|((with_reducible refine g_callf n_impl_within ?_);(refine aw_rcall_b s_impl_within ?_ ?_ <;> intro hb <;> (first | replace hb := inB_t hb | replace hb := inB_f hb)))|((with_reducible refine g_idx ?_);((first|refine ix ?_|refine ixi ?_|(refine ixg ?_;intro _ _)|(refine ixgi ?_;intro _ _));first|rintro _ _ _ _ _ ⟨rfl,rfl⟩ _|rintro _ _ _ _ _ ⟨_,rfl,_⟩ _|rintro _ _ _ _ _ ⟨_,_,_,_,rfl,rfl,_,_⟩ _|intro _ _ _ _ _ _ _))|(refine sx ?_;intro _ _)|((with_reducible refine g_awp ?_);simp only [g0,g1,g2]))
  all_goals first
    | exact pt (by unfold bucketOk; omega)
    | exact pf (by unfold bucketOk; omega)
theorem s_spec_BucketOk {h : AH} {b : Bucket} : RCalls Tryz.prog n_spec_BucketOk [.agg b.cs] h (.bool (bp (bucketOk b))) := by
  refine reader (c_spec_BucketOk _) (by simp only [old, Bucket.cs, olds, and_self]) ?_
  unfold p_spec_BucketOk
  (repeat' first|refine vs ?_|(refine br ?_ ?_<;>intro _<;>try(exfalso;first|omega|contradiction))|((with_reducible refine g_callf n_spec_l1In ?_);(refine aw_rcall_b s_spec_l1In ?_ ?_ <;> intro hb <;> (first | replace hb := inB_t hb | replace hb := inB_f hb)))|((with_reducible refine g_idx ?_);((first|refine ix ?_|refine ixi ?_|(refine ixg ?_;intro _ _)|(refine ixgi ?_;intro _ _));first|rintro _ _ _ _ _ ⟨rfl,rfl⟩ _|rintro _ _ _ _ _ ⟨_,rfl,_⟩ _|rintro _ _ _ _ _ ⟨_,_,_,_,rfl,rfl,_,_⟩ _|intro _ _ _ _ _ _ _))|(refine sx ?_;intro _ _)|((with_reducible refine g_awp ?_);simp only [g0,g1,g2]))
  all_goals first
    | exact pt (by unfold bucketOk; omega)
    | exact pf (by unfold bucketOk; omega)

/-! ### Items -/
noncomputable def notIt (x : Itm) : Bool := !bp (itemOk x)
theorem s_itemsOk_1 {h : AH} {x : Itm} {v : AV} {F : List Nat} (ok : Cel.ok x.s) (hs : Sz.sz x.s ≤ 67108864) (r : SlRep h v x.s.attrs F) : RCalls Tryz.prog n_impl_itemsOk_1 [.agg (x.cs v)] h (.bool (notIt x)) := by
  refine reader (c_impl_itemsOk_1 _) (by simp only [old]) ?_
  unfold p_impl_itemsOk_1
  (repeat' first|refine vs ?_|(refine br ?_ ?_<;>intro _<;>try(exfalso;first|omega|contradiction))|((with_reducible refine g_callf n_impl_ItemOk ?_);refine aw_rcall (s_impl_ItemOk ok hs slr_auto) ?_)|((with_reducible refine g_idx ?_);((first|refine ix ?_|refine ixi ?_|(refine ixg ?_;intro _ _)|(refine ixgi ?_;intro _ _));first|rintro _ _ _ _ _ ⟨rfl,rfl⟩ _|rintro _ _ _ _ _ ⟨_,rfl,_⟩ _|rintro _ _ _ _ _ ⟨_,_,_,_,rfl,rfl,_,_⟩ _|intro _ _ _ _ _ _ _))|(refine sx ?_;intro _ _)|((with_reducible refine g_awp ?_);simp only [g0,g1,g2]))
  exact pb rfl
theorem s_slices_IndexFunc_Item {h : AH} {xs : List Itm} {x0 : AV} {F : List Nat} {f : FuncId} {caps : List AV} {p : Itm → Bool} (r : SlRep h x0 xs F) (hf : LooksI Itm Tryz.prog h f caps xs p) :
    RCalls Tryz.prog n_slices_IndexFunc_Item [x0, .fn f caps] h (.int .i64 (idx p xs)) :=
  reader (c_slices_IndexFunc_Item _ _) (by simp only [old]) (idxI_spec (w := 7) rfl r hf)
theorem idx_ge {α : Type} {p : α → Bool} {xs : List α} : 0 ≤ idx p xs ↔ ∃ x ∈ xs, p x = true := by
  rcases idx_cases p xs with ⟨e, hn⟩ | ⟨i, x, e, hx, hp, -⟩
  · constructor
    · intro h; omega
    · rintro ⟨x, hx, hp⟩
      have : x ∈ xs.filter (fun y => p y) := List.mem_filter.2 ⟨hx, hp⟩
      exact absurd hp (by simpa using (by first | exact hn x hx | simp_all))
  · exact ⟨fun _ => ⟨x, List.mem_of_getElem? hx, hp⟩, fun _ => by omega⟩
theorem s_slices_ContainsFunc_Item {h : AH} {xs : List Itm} {x0 : AV} {F : List Nat} {f : FuncId} {caps : List AV} {p : Itm → Bool} (r : SlRep h x0 xs F) (hf : LooksI Itm Tryz.prog h f caps xs p) :
    RCalls Tryz.prog n_slices_ContainsFunc_Item [x0, .fn f caps] h (.bool (bp (∃ x ∈ xs, p x = true))) := by
  refine reader (c_slices_ContainsFunc_Item _ _) (by simp only [old]) ?_
  unfold p_slices_ContainsFunc_Item
  (repeat' first|refine vs ?_|(refine br ?_ ?_<;>intro _<;>try(exfalso;first|omega|contradiction))|((with_reducible refine g_callf n_slices_IndexFunc_Item ?_);refine aw_rcall (s_slices_IndexFunc_Item slr_auto hf) ?_)|((with_reducible refine g_idx ?_);((first|refine ix ?_|refine ixi ?_|(refine ixg ?_;intro _ _)|(refine ixgi ?_;intro _ _));first|rintro _ _ _ _ _ ⟨rfl,rfl⟩ _|rintro _ _ _ _ _ ⟨_,rfl,_⟩ _|rintro _ _ _ _ _ ⟨_,_,_,_,rfl,rfl,_,_⟩ _|intro _ _ _ _ _ _ _))|(refine sx ?_;intro _ _)|((with_reducible refine g_awp ?_);simp only [g0,g1,g2]))
  · exact pt (idx_ge.1 (by assumption))
  · exact pf fun k => absurd (idx_ge.2 k) (by assumption)
theorem s_impl_itemsOk {h : AH} {xs : List Itm} {x0 : AV} {F : List Nat} (ok : ∀ x ∈ xs, Cel.ok x) (hs : xs.length + szs xs ≤ 67108864) (r : SlRep h x0 xs F) : RCalls Tryz.prog n_impl_itemsOk [x0] h (.bool (bp (∀ x ∈ xs, itemOk x))) := by
  refine reader (c_impl_itemsOk _) (by simp only [old]) ?_
  unfold p_impl_itemsOk
  have hl : LooksI Itm Tryz.prog h n_impl_itemsOk_1 [] xs notIt := by
    rintro x cs F hm ⟨v, rfl, rx⟩
    have hx := szs_mem hm
    have hx2 : Sz.sz x = Sz.sz x.s := rfl
    exact s_itemsOk_1 (ok x hm).2 (by omega) rx
  (repeat' first|refine vs ?_|(refine br ?_ ?_<;>intro _<;>try(exfalso;first|omega|contradiction))|((with_reducible refine g_callf n_slices_ContainsFunc_Item ?_);refine aw_rcall (s_slices_ContainsFunc_Item slr_auto hl) ?_)|((with_reducible refine g_idx ?_);((first|refine ix ?_|refine ixi ?_|(refine ixg ?_;intro _ _)|(refine ixgi ?_;intro _ _));first|rintro _ _ _ _ _ ⟨rfl,rfl⟩ _|rintro _ _ _ _ _ ⟨_,rfl,_⟩ _|rintro _ _ _ _ _ ⟨_,_,_,_,rfl,rfl,_,_⟩ _|intro _ _ _ _ _ _ _))|(refine sx ?_;intro _ _)|((with_reducible refine g_awp ?_);simp only [g0,g1,g2]))
  refine pb ?_
  by_cases e : ∀ x ∈ xs, itemOk x
  · have : ¬ ∃ x ∈ xs, notIt x = true := by
      rintro ⟨x, hx, hp⟩
      simp [notIt, bp_t (e x hx)] at hp
    rw [bp_t e, bp_f this]; rfl
  · suffices hh : ∃ x ∈ xs, notIt x = true by rw [bp_f e, bp_t hh]; rfl
    have ⟨x, hx⟩ := Classical.not_forall.1 e
    have ⟨hm, hx⟩ := Classical.not_imp.1 hx
    exact ⟨x, hm, by simp [notIt, bp_f hx]⟩
end Go.Proofs.YtjnekdbdmoibgaaGreat
end
section
/- Copies of wheels' lists. -/
set_option linter.unusedSimpArgs false
set_option linter.unusedVariables false
set_option maxHeartbeats 2000000
namespace Go.Proofs.YtjnekdbdmoibgaaGreat
open Go Go.Ab
section
/- impl.copySlots -/
def p_impl_copySlots (x0 : AV) : Prog := .op (.len 0 x0) fun v1 => .loop [AV.nils, AV.int .i64 0] (fun vs2 => .op (.bin 0 .lss (g vs2 1) v1) fun v4 => .ite v4 (.op (.idx 1 x0 (g vs2 1)) fun v5 => .op (.ld1 v5) fun v6 => .op (.app 3 24 AV.nils v6) fun v7 => .op (.bslice 1 1 [AV.nils] [(0, 1, v7)]) fun v8 => .op (.app 1 24 (g vs2 0) v8) fun v9 => .op (.bin 0 .add (g vs2 1) (AV.int .i64 1)) fun v10 => .leaf 0 [v9, v10]) (.leaf 2 [g vs2 0, g vs2 1])) fun t3 vs2 => tsel t3 1 (.leaf 1 vs2) (tsel t3 2 (.fin [.val (g vs2 0)]) .bad)
theorem c_impl_copySlots (x0 : AV) : CC Tryz.prog n_impl_copySlots [x0] (p_impl_copySlots x0) := cc Tryz.func210 [3, 6, 7, 8] (fun _ => []) (by kernel_rfl)
/- spec.l8Lists -/
def p_spec_l8Lists (x0 : AV) : Prog := .op (.bslice 1 0 [] []) fun v1 => .loop [v1, AV.int .i64 0] (fun vs2 => .op (.len 0 x0) fun v4 => .op (.bin 0 .lss (g vs2 1) v4) fun v5 => .ite v5 (.op (.bslice 3 0 [] []) fun v6 => .op (.idx 1 x0 (g vs2 1)) fun v7 => .op (.ld1 v7) fun v8 => .op (.app 3 24 v6 v8) fun v9 => .op (.bslice 1 1 [AV.nils] [(0, 1, v9)]) fun v10 => .op (.app 1 24 (g vs2 0) v10) fun v11 => .op (.bin 0 .add (g vs2 1) (AV.int .i64 1)) fun v12 => .leaf 0 [v11, v12]) (.leaf 2 [g vs2 0, g vs2 1])) fun t3 vs2 => tsel t3 1 (.leaf 1 vs2) (tsel t3 2 (.fin [.val (g vs2 0)]) .bad)
theorem c_spec_l8Lists (x0 : AV) : CC Tryz.prog n_spec_l8Lists [x0] (p_spec_l8Lists x0) := cc Tryz.func187 [0, 3, 4] (fun _ => []) (by kernel_rfl)
end
theorem s_impl_copySlots (xs : List (List Ab.Timer)) (hs : xs.length + szs xs ≤ 67108864) : CopyL Tryz.prog n_impl_copySlots xs := by
  intro v F h r
  refine c_impl_copySlots _ ?_
  unfold p_impl_copySlots
  have hsm := r.small
  refine aw_len r ?_
  refine aw_upto xs.length (fun i vs h1 => ∃ u G, vs = [u, .int .i64 (i : Int)] ∧ i ≤ xs.length ∧ Ext h h1 ∧ SlRep h1 u (xs.take i) G ∧ Own h.n h1 G) ⟨.nils, [], rfl, Nat.zero_le _, Ext.refl _, SlRep.nils, Own.nil⟩ ?_
  rintro i vs h1 _ ⟨u, G, rfl, hi, e1, ru, ou⟩
  have n1 := e1.1
  simp only [g0, g1]
  refine br (fun hlt => ?_) (fun hge => ?_)
  · obtain ⟨x, hx, -, htk⟩ := drop_step (show i < xs.length by omega)
    have hm := szs_mem (List.mem_of_getElem? hx)
    have hx2 : Sz.sz x = x.length + szs x := rfl
    refine vs ?_
    refine aw_idx r hx rfl ?_
    rintro b o _ Fi a ⟨vx, rfl, rx⟩ _
    (repeat' first|refine vs ?_|(refine br ?_ ?_<;>intro _<;>try(exfalso;first|omega|contradiction))|((with_reducible refine g_idx ?_);((first|refine ix ?_|refine ixi ?_|(refine ixg ?_;intro _ _)|(refine ixgi ?_;intro _ _));first|rintro _ _ _ _ _ ⟨rfl,rfl⟩ _|rintro _ _ _ _ _ ⟨_,rfl,_⟩ _|rintro _ _ _ _ _ ⟨_,_,_,_,rfl,rfl,_,_⟩ _|intro _ _ _ _ _ _ _))|(refine sx ?_;intro _ _)|((with_reducible refine g_awp ?_);simp only [g0,g1,g2]))
    refine app0 (n := h1.n) (ys := x) (slr_auto : SlRep h1 vx x Fi) (tail_own rx _) (Nat.le_refl _) rfl (by omega) ?_
    intro w2 h2 G2 e2 q2 o2
    have n2 := e2.1
    (repeat' first|refine vs ?_|(refine br ?_ ?_<;>intro _<;>try(exfalso;first|omega|contradiction))|((with_reducible refine g_idx ?_);((first|refine ix ?_|refine ixi ?_|(refine ixg ?_;intro _ _)|(refine ixgi ?_;intro _ _));first|rintro _ _ _ _ _ ⟨rfl,rfl⟩ _|rintro _ _ _ _ _ ⟨_,rfl,_⟩ _|rintro _ _ _ _ _ ⟨_,_,_,_,rfl,rfl,_,_⟩ _|intro _ _ _ _ _ _ _))|(refine sx ?_;intro _ _)|((with_reducible refine g_awp ?_);simp only [g0,g1,g2]))
    have hlen : (xs.take i).length = i := by rw [List.length_take]; omega
    refine app1 (n := h.n) (xs := xs.take i) (Fx := G) (a := x) slr_auto ⟨_, rfl, q2⟩ (own_app (ol_auto) o2 (by omega) dis_auto) om_auto rfl ?_ ?_ ?_
    · rw [hlen]; omega
    · rw [hlen]; omega
    intro u' h' F' ek kp r' o'
    (repeat' first|refine vs ?_|(refine br ?_ ?_<;>intro _<;>try(exfalso;first|omega|contradiction))|((with_reducible refine g_idx ?_);((first|refine ix ?_|refine ixi ?_|(refine ixg ?_;intro _ _)|(refine ixgi ?_;intro _ _));first|rintro _ _ _ _ _ ⟨rfl,rfl⟩ _|rintro _ _ _ _ _ ⟨_,rfl,_⟩ _|rintro _ _ _ _ _ ⟨_,_,_,_,rfl,rfl,_,_⟩ _|intro _ _ _ _ _ _ _))|(refine sx ?_;intro _ _)|((with_reducible refine g_awp ?_);simp only [g0,g1,g2]))
    exact ⟨by omega, u', F', rfl, by omega, ek h ext_auto (Nat.le_refl _), by rw [htk]; exact r', o'⟩
  · (repeat' first|refine vs ?_|(refine br ?_ ?_<;>intro _<;>try(exfalso;first|omega|contradiction))|((with_reducible refine g_idx ?_);((first|refine ix ?_|refine ixi ?_|(refine ixg ?_;intro _ _)|(refine ixgi ?_;intro _ _));first|rintro _ _ _ _ _ ⟨rfl,rfl⟩ _|rintro _ _ _ _ _ ⟨_,rfl,_⟩ _|rintro _ _ _ _ _ ⟨_,_,_,_,rfl,rfl,_,_⟩ _|intro _ _ _ _ _ _ _))|(refine sx ?_;intro _ _)|((with_reducible refine g_awp ?_);simp only [g0,g1,g2]))
    exact ⟨rfl, u, rfl, e1, G, by rw [show i = xs.length by omega, List.take_length] at ru; exact ru, ou⟩
theorem s_spec_l8Lists (xs : List (List Ab.Timer)) (hs : xs.length + szs xs ≤ 67108864) : CopyL Tryz.prog n_spec_l8Lists xs := by
  intro v F h r
  refine c_spec_l8Lists _ ?_
  unfold p_spec_l8Lists
  have hsm := r.small
  obtain ⟨re, oe⟩ := empty_own (h := h) (α := List Ab.Timer) (w := 1) rfl
  refine vs ?_
  refine aw_upto xs.length (fun i vs h1 => ∃ u G, vs = [u, .int .i64 (i : Int)] ∧ i ≤ xs.length ∧ Ext h h1 ∧ SlRep h1 u (xs.take i) G ∧ Own h.n h1 G) ⟨_, _, rfl, Nat.zero_le _, (Ext.refl _).push _, by rw [List.take_zero]; exact re, oe _ (Nat.le_refl _)⟩ ?_
  rintro i vs h1 _ ⟨u, G, rfl, hi, e1, ru, ou⟩
  have n1 := e1.1
  simp only [g0, g1]
  refine aw_len r ?_
  refine br (fun hlt => ?_) (fun hge => ?_)
  · obtain ⟨x, hx, -, htk⟩ := drop_step (show i < xs.length by omega)
    have hm := szs_mem (List.mem_of_getElem? hx)
    have hx2 : Sz.sz x = x.length + szs x := rfl
    refine vs ?_
    refine aw_idx r hx rfl ?_
    rintro b o _ Fi a ⟨vx, rfl, rx⟩ _
    (repeat' first|refine vs ?_|(refine br ?_ ?_<;>intro _<;>try(exfalso;first|omega|contradiction))|((with_reducible refine g_idx ?_);((first|refine ix ?_|refine ixi ?_|(refine ixg ?_;intro _ _)|(refine ixgi ?_;intro _ _));first|rintro _ _ _ _ _ ⟨rfl,rfl⟩ _|rintro _ _ _ _ _ ⟨_,rfl,_⟩ _|rintro _ _ _ _ _ ⟨_,_,_,_,rfl,rfl,_,_⟩ _|intro _ _ _ _ _ _ _))|(refine sx ?_;intro _ _)|((with_reducible refine g_awp ?_);simp only [g0,g1,g2]))
    refine appE (h := h1) (n := h1.n) (ys := x) (slr_auto : SlRep h1 vx x Fi) (tail_own rx _) (Nat.le_refl _) rfl (by omega) ?_
    intro w2 h2 G2 e2 q2 o2
    have n2 := e2.1
    (repeat' first|refine vs ?_|(refine br ?_ ?_<;>intro _<;>try(exfalso;first|omega|contradiction))|((with_reducible refine g_idx ?_);((first|refine ix ?_|refine ixi ?_|(refine ixg ?_;intro _ _)|(refine ixgi ?_;intro _ _));first|rintro _ _ _ _ _ ⟨rfl,rfl⟩ _|rintro _ _ _ _ _ ⟨_,rfl,_⟩ _|rintro _ _ _ _ _ ⟨_,_,_,_,rfl,rfl,_,_⟩ _|intro _ _ _ _ _ _ _))|(refine sx ?_;intro _ _)|((with_reducible refine g_awp ?_);simp only [g0,g1,g2]))
    have hlen : (xs.take i).length = i := by rw [List.length_take]; omega
    refine app1 (n := h.n) (xs := xs.take i) (Fx := G) (a := x) slr_auto ⟨_, rfl, q2⟩ (own_app (ol_auto) o2 (by omega) dis_auto) om_auto rfl ?_ ?_ ?_
    · rw [hlen]; omega
    · rw [hlen]; omega
    intro u' h' F' ek kp r' o'
    (repeat' first|refine vs ?_|(refine br ?_ ?_<;>intro _<;>try(exfalso;first|omega|contradiction))|((with_reducible refine g_idx ?_);((first|refine ix ?_|refine ixi ?_|(refine ixg ?_;intro _ _)|(refine ixgi ?_;intro _ _));first|rintro _ _ _ _ _ ⟨rfl,rfl⟩ _|rintro _ _ _ _ _ ⟨_,rfl,_⟩ _|rintro _ _ _ _ _ ⟨_,_,_,_,rfl,rfl,_,_⟩ _|intro _ _ _ _ _ _ _))|(refine sx ?_;intro _ _)|((with_reducible refine g_awp ?_);simp only [g0,g1,g2]))
    exact ⟨by omega, u', F', rfl, by omega, ek h ext_auto (Nat.le_refl _), by rw [htk]; exact r', o'⟩
  · (repeat' first|refine vs ?_|(refine br ?_ ?_<;>intro _<;>try(exfalso;first|omega|contradiction))|((with_reducible refine g_idx ?_);((first|refine ix ?_|refine ixi ?_|(refine ixg ?_;intro _ _)|(refine ixgi ?_;intro _ _));first|rintro _ _ _ _ _ ⟨rfl,rfl⟩ _|rintro _ _ _ _ _ ⟨_,rfl,_⟩ _|rintro _ _ _ _ _ ⟨_,_,_,_,rfl,rfl,_,_⟩ _|intro _ _ _ _ _ _ _))|(refine sx ?_;intro _ _)|((with_reducible refine g_awp ?_);simp only [g0,g1,g2]))
    exact ⟨rfl, u, rfl, e1, G, by rw [show i = xs.length by omega, List.take_length] at ru; exact ru, ou⟩
end Go.Proofs.YtjnekdbdmoibgaaGreat
end
section
/- Copies of wheels. -/
set_option linter.unusedSimpArgs false
set_option linter.unusedVariables false
set_option maxHeartbeats 2000000
namespace Go.Proofs.YtjnekdbdmoibgaaGreat
open Go Go.Ab
section
/- impl.copyWheel -/
def p_impl_copyWheel (x0 : AV) : Prog := .op (.box x0) fun v1 => .op (.alloc [AV.int .i64 0, AV.nils, AV.nils, AV.nils]) fun v2 => .op (.fad 0 v1) fun v3 => .op (.ld1 v3) fun v4 => .op (.fad 1 v1) fun v5 => .op (.ld1 v5) fun v6 => .op (.fad 2 v1) fun v7 => .op (.ld1 v7) fun v8 => .op (.fad 3 v1) fun v9 => .op (.ld1 v9) fun v10 => .op (.call n_impl_copySlots [v6]) fun v11 => .chk (.ld1 v3) v4 (.chk (.ld1 v7) v8 (.chk (.ld1 v9) v10 (.op (.call n_impl_copySlots [v8]) fun v12 => .chk (.ld1 v3) v4 (.chk (.ld1 v9) v10 (.op (.app 3 24 AV.nils v10) fun v13 => .chk (.ld1 v3) v4 (.op (.build [AV.int .i64 0, AV.nils, AV.nils, AV.nils] [(0, 1, v4), (1, 1, v11), (2, 1, v12), (3, 1, v13)]) fun v14 => .op (.st 4 v2 v14) fun v15 => .fin [.cn 4 v2]))))))
theorem c_impl_copyWheel (x0 : AV) : CC Tryz.prog n_impl_copyWheel [x0] (p_impl_copyWheel x0) := cc Tryz.func137 [] (fun r => if r = 1 then [(0, []), (1, []), (2, []), (3, []), (5, []), (6, []), (8, []), (9, []), (4, [1, 6, 9]), (7, [1, 9]), (10, [1]), (11, []), (12, [])] else []) (by kernel_rfl)
end
theorem s_impl_copyWheel (x : Wheel) (hs : Sz.sz x ≤ 67108864) : CopyX Wheel Tryz.prog n_impl_copyWheel x := by
  rintro cs F h ⟨v0, v1, v2, F0, F1, F2, rfl, rfl, r0, r1, r2⟩
  have hsz : Sz.sz x = (x.near.length + szs x.near) + (x.far.length + szs x.far) + (x.rest.length + szs x.rest) := rfl
  refine c_impl_copyWheel _ ?_
  unfold p_impl_copyWheel
  (repeat' first|refine vs ?_|(refine br ?_ ?_<;>intro _<;>try(exfalso;first|omega|contradiction))|((with_reducible refine g_idx ?_);((first|refine ix ?_|refine ixi ?_|(refine ixg ?_;intro _ _)|(refine ixgi ?_;intro _ _));first|rintro _ _ _ _ _ ⟨rfl,rfl⟩ _|rintro _ _ _ _ _ ⟨_,rfl,_⟩ _|rintro _ _ _ _ _ ⟨_,_,_,_,rfl,rfl,_,_⟩ _|intro _ _ _ _ _ _ _))|(refine sx ?_;intro _ _)|((with_reducible refine g_awp ?_);simp only [g0,g1,g2]))
  refine aw_call (s_impl_copySlots x.near (by omega) _ _ _ slr_auto) ?_
  rintro w1 h1 ⟨e1, G1, q1, o1⟩
  have n1 := e1.1
  (try simp only [push_n, upd_n] at n1)
  (repeat' first|refine vs ?_|(refine br ?_ ?_<;>intro _<;>try(exfalso;first|omega|contradiction))|((with_reducible refine g_idx ?_);((first|refine ix ?_|refine ixi ?_|(refine ixg ?_;intro _ _)|(refine ixgi ?_;intro _ _));first|rintro _ _ _ _ _ ⟨rfl,rfl⟩ _|rintro _ _ _ _ _ ⟨_,rfl,_⟩ _|rintro _ _ _ _ _ ⟨_,_,_,_,rfl,rfl,_,_⟩ _|intro _ _ _ _ _ _ _))|(refine sx ?_;intro _ _)|((with_reducible refine g_awp ?_);simp only [g0,g1,g2]))
  refine aw_call (s_impl_copySlots x.far (by omega) _ _ _ slr_auto) ?_
  rintro w2 h2 ⟨e2, G2, q2, o2⟩
  have n2 := e2.1
  (repeat' first|refine vs ?_|(refine br ?_ ?_<;>intro _<;>try(exfalso;first|omega|contradiction))|((with_reducible refine g_idx ?_);((first|refine ix ?_|refine ixi ?_|(refine ixg ?_;intro _ _)|(refine ixgi ?_;intro _ _));first|rintro _ _ _ _ _ ⟨rfl,rfl⟩ _|rintro _ _ _ _ _ ⟨_,rfl,_⟩ _|rintro _ _ _ _ _ ⟨_,_,_,_,rfl,rfl,_,_⟩ _|intro _ _ _ _ _ _ _))|(refine sx ?_;intro _ _)|((with_reducible refine g_awp ?_);simp only [g0,g1,g2]))
  refine app0 (ys := x.rest) (slr_auto : SlRep _ v2 x.rest F2) (tail_own r2 _) (Nat.le_refl _) rfl (by omega) ?_
  intro w3 h3 G3 e3 q3 o3
  have n3 := e3.1
  (repeat' first|refine vs ?_|(refine br ?_ ?_<;>intro _<;>try(exfalso;first|omega|contradiction))|((with_reducible refine g_idx ?_);((first|refine ix ?_|refine ixi ?_|(refine ixg ?_;intro _ _)|(refine ixgi ?_;intro _ _));first|rintro _ _ _ _ _ ⟨rfl,rfl⟩ _|rintro _ _ _ _ _ ⟨_,rfl,_⟩ _|rintro _ _ _ _ _ ⟨_,_,_,_,rfl,rfl,_,_⟩ _|intro _ _ _ _ _ _ _))|(refine sx ?_;intro _ _)|((with_reducible refine g_awp ?_);simp only [g0,g1,g2]))
  exact ⟨rfl, _, rfl, ext_auto, _, _, rfl, ⟨_, _, _, _, _, _, rfl, rfl, slr_auto, slr_auto, slr_auto⟩, (ol_app2 oll_auto (ol_app2 oll_auto oll_auto disn_auto) disn_auto).1⟩
end Go.Proofs.YtjnekdbdmoibgaaGreat
end
section
/- Copies of rules and set-ups. -/
set_option linter.unusedSimpArgs false
set_option linter.unusedVariables false
set_option maxHeartbeats 2000000
namespace Go.Proofs.YtjnekdbdmoibgaaGreat
open Go Go.Ab
section
/- impl.copyPol -/
def p_impl_copyPol (x0 : AV) : Prog := .op (.box x0) fun v1 => .op (.alloc z5_5ed) fun v2 => .op (.ldn 5 v1) fun v3 => .op (.alloc z5_5ed) fun v4 => .op (.st 5 v4 v3) fun v5 => .op (.fad 4 v4) fun v6 => .op (.st 1 v6 AV.nils) fun v7 => .op (.fad 4 v1) fun v8 => .op (.ld1 v8) fun v9 => .op (.len 0 v9) fun v10 => .loop [AV.int .i64 0] (fun vs11 => .op (.bin 0 .lss (g vs11 0) v10) fun v13 => .ite v13 (.op (.idx 5 v9 (g vs11 0)) fun v14 => .op (.ldn 5 v14) fun v15 => .op (.alloc z5_5ed) fun v16 => .op (.st 5 v16 v15) fun v17 => .op (.fad 4 v4) fun v18 => .op (.ld1 v18) fun v19 => .op (.ldn 5 v16) fun v20 => .op (.call n_impl_copyPol [v20]) fun v21 => .chk (.ld1 v18) v19 (.op (.bslice 5 1 z5_5ed [(0, 5, v21)]) fun v22 => .op (.app 5 72 v19 v22) fun v23 => .op (.fad 4 v4) fun v24 => .op (.st 1 v24 v23) fun v25 => .op (.bin 0 .add (g vs11 0) (AV.int .i64 1)) fun v26 => .leaf 0 [v26])) (.leaf 2 [g vs11 0])) fun t12 vs11 => tsel t12 1 (.leaf 1 vs11) (tsel t12 2 (.op (.ldn 5 v4) fun v27 => .op (.st 5 v2 v27) fun v28 => .fin [.cn 5 v2]) .bad)
theorem c_impl_copyPol (x0 : AV) : CC Tryz.prog n_impl_copyPol [x0] (p_impl_copyPol x0) := cc Tryz.func208 [2, 3, 9, 10, 11] (fun r => if r = 6 then [(0, []), (1, []), (2, []), (3, [1]), (4, []), (5, []), (6, []), (7, [])] else []) (by kernel_rfl)
/- spec.l5Copy -/
def p_spec_l5Copy (x0 : AV) : Prog := .op (.box x0) fun v1 => .op (.alloc z5_5ed) fun v2 => .op (.ldn 5 v1) fun v3 => .op (.alloc z5_5ed) fun v4 => .op (.st 5 v4 v3) fun v5 => .op (.bslice 5 0 [] []) fun v6 => .op (.fad 4 v4) fun v7 => .op (.st 1 v7 v6) fun v8 => .loop [AV.int .i64 0] (fun vs9 => .op (.fad 4 v1) fun v11 => .op (.ld1 v11) fun v12 => .op (.len 0 v12) fun v13 => .op (.bin 0 .lss (g vs9 0) v13) fun v14 => .ite v14 (.op (.fad 4 v1) fun v15 => .op (.ld1 v15) fun v16 => .op (.idx 5 v16 (g vs9 0)) fun v17 => .op (.ldn 5 v17) fun v18 => .op (.call n_spec_l5Copy [v18]) fun v19 => .op (.alloc z5_5ed) fun v20 => .op (.st 5 v20 v19) fun v21 => .op (.fad 4 v4) fun v22 => .op (.ld1 v22) fun v23 => .op (.ldn 5 v20) fun v24 => .op (.bslice 5 1 z5_5ed [(0, 5, v24)]) fun v25 => .op (.app 5 72 v23 v25) fun v26 => .op (.fad 4 v4) fun v27 => .op (.st 1 v27 v26) fun v28 => .op (.bin 0 .add (g vs9 0) (AV.int .i64 1)) fun v29 => .leaf 0 [v29]) (.leaf 2 [g vs9 0])) fun t10 vs9 => tsel t10 1 (.leaf 1 vs9) (tsel t10 2 (.op (.ldn 5 v4) fun v30 => .op (.st 5 v2 v30) fun v31 => .fin [.cn 5 v2]) .bad)
theorem c_spec_l5Copy (x0 : AV) : CC Tryz.prog n_spec_l5Copy [x0] (p_spec_l5Copy x0) := cc Tryz.func185 [1, 2, 3, 4] (fun _ => []) (by kernel_rfl)
/- impl.copyConf -/
def p_impl_copyConf (x0 : AV) : Prog := .op (.box x0) fun v1 => .op (.alloc z12_a94) fun v2 => .op (.fad 7 v1) fun v3 => .op (.ldn 5 v3) fun v4 => .op (.call n_impl_copyPol [v4]) fun v5 => .op (.fad 7 v1) fun v6 => .op (.st 5 v6 v5) fun v7 => .op (.ldn 12 v1) fun v8 => .op (.st 12 v2 v8) fun v9 => .fin [.cn 12 v2]
theorem c_impl_copyConf (x0 : AV) : CC Tryz.prog n_impl_copyConf [x0] (p_impl_copyConf x0) := cc Tryz.func135 [] (fun _ => []) (by kernel_rfl)
/- spec.l13Copy -/
def p_spec_l13Copy (x0 : AV) : Prog := .op (.box x0) fun v1 => .op (.alloc z12_a94) fun v2 => .op (.ldn 12 v1) fun v3 => .op (.alloc z12_a94) fun v4 => .op (.st 12 v4 v3) fun v5 => .op (.fad 7 v1) fun v6 => .op (.ldn 5 v6) fun v7 => .op (.call n_spec_l5Copy [v7]) fun v8 => .op (.alloc z5_5ed) fun v9 => .op (.st 5 v9 v8) fun v10 => .op (.ldn 5 v9) fun v11 => .op (.fad 7 v4) fun v12 => .op (.st 5 v12 v11) fun v13 => .op (.ldn 12 v4) fun v14 => .op (.st 12 v2 v14) fun v15 => .fin [.cn 12 v2]
theorem c_spec_l13Copy (x0 : AV) : CC Tryz.prog n_spec_l13Copy [x0] (p_spec_l13Copy x0) := cc Tryz.func107 [] (fun _ => []) (by kernel_rfl)
end
theorem s_impl_copyPol (x : Pol) : Sz.sz x ≤ 67108864 → CopyX Pol Tryz.prog n_impl_copyPol x := by
  refine pol_ind (p := fun x => Sz.sz x ≤ 67108864 → CopyX Pol Tryz.prog n_impl_copyPol x) ?_ x
  intro x ih hs cs F h r
  rw [Pol.sz_eq] at hs
  rw [Pol.rep_iff] at r
  obtain ⟨v0, rfl, r0⟩ := r
  have hsm := r0.small
  refine c_impl_copyPol _ ?_
  unfold p_impl_copyPol
  (repeat' first|refine vs ?_|(refine br ?_ ?_<;>intro _<;>try(exfalso;first|omega|contradiction))|((with_reducible refine g_idx ?_);((first|refine ix ?_|refine ixi ?_|(refine ixg ?_;intro _ _)|(refine ixgi ?_;intro _ _));first|rintro _ _ _ _ _ ⟨rfl,rfl⟩ _|rintro _ _ _ _ _ ⟨_,rfl,_⟩ _|rintro _ _ _ _ _ ⟨_,_,_,_,rfl,rfl,_,_⟩ _|intro _ _ _ _ _ _ _))|(refine sx ?_;intro _ _)|((with_reducible refine g_awp ?_);simp only [g0,g1,g2]))
  refine aw_upto x.l.length (fun i vs h1 => ∃ u G, vs = [.int .i64 (i : Int)] ∧ i ≤ x.l.length ∧ Bk h1 (h.n + 1 + 1) [.int .i64 x.kind, .int .i64 x.n, .str x.key, .str x.text, u] 0 ∧ Bk h1 (h.n + 1) [AV.int .i64 0, AV.int .i64 0, AV.str ⟨#[]⟩, AV.str ⟨#[]⟩, AV.nils] 0 ∧ Ext h h1 ∧ h.n + 1 + 1 + 1 ≤ h1.n ∧ SlRep h1 u (x.l.take i) G ∧ Own (h.n + 1 + 1 + 1) h1 G) ?_ ?_
  · exact ⟨.nils, [], rfl, Nat.zero_le _, bk_auto, bk_auto, ext_auto, by simp only [push_n, upd_n]; omega, SlRep.nils, Own.nil⟩
  rintro i vs h1 _ ⟨u, G, rfl, hi, b2, b1, e1, m1, ru, ou⟩
  simp only [g0, g1]
  refine br (fun hlt => ?_) (fun hge => ?_)
  · obtain ⟨y, hy, -, htk⟩ := drop_step (show i < x.l.length by omega)
    have hm := szs_mem (List.mem_of_getElem? hy)
    have c := ih y (List.mem_of_getElem? hy) (by omega)
    refine vs ?_
    refine aw_idx r0 hy rfl ?_
    rintro b o cy Fi a ry _
    rw [Pol.rep_iff] at ry
    obtain ⟨vy, rfl, ry⟩ := ry
    (repeat' first|refine vs ?_|(refine br ?_ ?_<;>intro _<;>try(exfalso;first|omega|contradiction))|((with_reducible refine g_idx ?_);((first|refine ix ?_|refine ixi ?_|(refine ixg ?_;intro _ _)|(refine ixgi ?_;intro _ _));first|rintro _ _ _ _ _ ⟨rfl,rfl⟩ _|rintro _ _ _ _ _ ⟨_,rfl,_⟩ _|rintro _ _ _ _ _ ⟨_,_,_,_,rfl,rfl,_,_⟩ _|intro _ _ _ _ _ _ _))|(refine sx ?_;intro _ _)|((with_reducible refine g_awp ?_);simp only [g0,g1,g2]))
    refine aw_call (c _ _ _ (Pol.rep_iff.2 ⟨_, rfl, slr_auto⟩)) ?_
    rintro _ h2 ⟨e2, _, G2, rfl, r2, o2⟩
    rw [Pol.rep_iff] at r2
    obtain ⟨w2, rfl, q2⟩ := r2
    have n2 := e2.1
    (try simp only [push_n, upd_n] at n2)
    (repeat' first|refine vs ?_|(refine br ?_ ?_<;>intro _<;>try(exfalso;first|omega|contradiction))|((with_reducible refine g_idx ?_);((first|refine ix ?_|refine ixi ?_|(refine ixg ?_;intro _ _)|(refine ixgi ?_;intro _ _));first|rintro _ _ _ _ _ ⟨rfl,rfl⟩ _|rintro _ _ _ _ _ ⟨_,rfl,_⟩ _|rintro _ _ _ _ _ ⟨_,_,_,_,rfl,rfl,_,_⟩ _|intro _ _ _ _ _ _ _))|(refine sx ?_;intro _ _)|((with_reducible refine g_awp ?_);simp only [g0,g1,g2]))
    have hlen : (x.l.take i).length = i := by rw [List.length_take]; omega
    refine app1 (n := h.n + 1 + 1 + 1) (xs := x.l.take i) (Fx := G) (a := y) slr_auto (Pol.rep_iff.2 ⟨_, rfl, q2⟩) (own_app (ol_auto) o2 (by simp only [push_n]; omega) dis_auto) om_auto rfl ?_ ?_ ?_
    · rw [hlen]; omega
    · rw [hlen]; omega
    intro u' h' F' ek kp r' o'
    have n3 := kp.1
    (try simp only [push_n, upd_n] at n3)
    (repeat' first|refine vs ?_|(refine br ?_ ?_<;>intro _<;>try(exfalso;first|omega|contradiction))|((with_reducible refine g_idx ?_);((first|refine ix ?_|refine ixi ?_|(refine ixg ?_;intro _ _)|(refine ixgi ?_;intro _ _));first|rintro _ _ _ _ _ ⟨rfl,rfl⟩ _|rintro _ _ _ _ _ ⟨_,rfl,_⟩ _|rintro _ _ _ _ _ ⟨_,_,_,_,rfl,rfl,_,_⟩ _|intro _ _ _ _ _ _ _))|(refine sx ?_;intro _ _)|((with_reducible refine g_awp ?_);simp only [g0,g1,g2]))
    exact ⟨by omega, u', F', rfl, by omega, bk_auto, bk_auto, (ek h ext_auto (by omega)).upd (by (try simp only [push_n, upd_n]); omega) _, by simp only [upd_n]; omega, by rw [htk]; exact slr_auto, ol_auto⟩
  · have hlen : i = x.l.length := by omega
    subst hlen
    rw [List.take_length] at ru
    (repeat' first|refine vs ?_|(refine br ?_ ?_<;>intro _<;>try(exfalso;first|omega|contradiction))|((with_reducible refine g_idx ?_);((first|refine ix ?_|refine ixi ?_|(refine ixg ?_;intro _ _)|(refine ixgi ?_;intro _ _));first|rintro _ _ _ _ _ ⟨rfl,rfl⟩ _|rintro _ _ _ _ _ ⟨_,rfl,_⟩ _|rintro _ _ _ _ _ ⟨_,_,_,_,rfl,rfl,_,_⟩ _|intro _ _ _ _ _ _ _))|(refine sx ?_;intro _ _)|((with_reducible refine g_awp ?_);simp only [g0,g1,g2]))
    exact ⟨rfl, _, rfl, ext_auto, _, _, rfl, Pol.rep_iff.2 ⟨_, rfl, slr_auto⟩, (ol_auto : Own (h.n + 1 + 1 + 1) _ _).mono (by omega) fun _ _ => rfl⟩
theorem s_spec_l5Copy (x : Pol) : Sz.sz x ≤ 67108864 → CopyX Pol Tryz.prog n_spec_l5Copy x := by
  refine pol_ind (p := fun x => Sz.sz x ≤ 67108864 → CopyX Pol Tryz.prog n_spec_l5Copy x) ?_ x
  intro x ih hs cs F h r
  rw [Pol.sz_eq] at hs
  rw [Pol.rep_iff] at r
  obtain ⟨v0, rfl, r0⟩ := r
  have hsm := r0.small
  refine c_spec_l5Copy _ ?_
  unfold p_spec_l5Copy
  (repeat' first|refine vs ?_|(refine br ?_ ?_<;>intro _<;>try(exfalso;first|omega|contradiction))|((with_reducible refine g_idx ?_);((first|refine ix ?_|refine ixi ?_|(refine ixg ?_;intro _ _)|(refine ixgi ?_;intro _ _));first|rintro _ _ _ _ _ ⟨rfl,rfl⟩ _|rintro _ _ _ _ _ ⟨_,rfl,_⟩ _|rintro _ _ _ _ _ ⟨_,_,_,_,rfl,rfl,_,_⟩ _|intro _ _ _ _ _ _ _))|(refine sx ?_;intro _ _)|((with_reducible refine g_awp ?_);simp only [g0,g1,g2]))
  refine aw_upto x.l.length (fun i vs h1 => ∃ u G, vs = [.int .i64 (i : Int)] ∧ i ≤ x.l.length ∧ Bk h1 h.n (x.cs v0) 0 ∧ Bk h1 (h.n + 1 + 1) [.int .i64 x.kind, .int .i64 x.n, .str x.key, .str x.text, u] 0 ∧ Bk h1 (h.n + 1) [AV.int .i64 0, AV.int .i64 0, AV.str ⟨#[]⟩, AV.str ⟨#[]⟩, AV.nils] 0 ∧ Ext h h1 ∧ h.n + 1 + 1 + 1 ≤ h1.n ∧ SlRep h1 u (x.l.take i) G ∧ Own (h.n + 1 + 1 + 1) h1 G) ?_ ?_
  · refine ⟨_, [h.n + 1 + 1 + 1], rfl, Nat.zero_le _, bk_auto, bk_auto, bk_auto, ext_auto, by simp only [push_n, upd_n]; omega, ?_, ?_⟩
    · exact (empty_own (α := Pol) (w := 5) rfl).1
    · exact (empty_own (α := Pol) (w := 5) rfl).2 _ (by simp only [push_n]; omega)
  rintro i vs h1 _ ⟨u, G, rfl, hi, b0, b2, b1, e1, m1, ru, ou⟩
  simp only [g0, g1]
  refine vs ?_
  refine br (fun hlt => ?_) (fun hge => ?_)
  · obtain ⟨y, hy, -, htk⟩ := drop_step (show i < x.l.length by omega)
    have hm := szs_mem (List.mem_of_getElem? hy)
    have c := ih y (List.mem_of_getElem? hy) (by omega)
    refine vs ?_
    refine aw_idx r0 hy rfl ?_
    rintro b o cy Fi a ry _
    rw [Pol.rep_iff] at ry
    obtain ⟨vy, rfl, ry⟩ := ry
    (repeat' first|refine vs ?_|(refine br ?_ ?_<;>intro _<;>try(exfalso;first|omega|contradiction))|((with_reducible refine g_idx ?_);((first|refine ix ?_|refine ixi ?_|(refine ixg ?_;intro _ _)|(refine ixgi ?_;intro _ _));first|rintro _ _ _ _ _ ⟨rfl,rfl⟩ _|rintro _ _ _ _ _ ⟨_,rfl,_⟩ _|rintro _ _ _ _ _ ⟨_,_,_,_,rfl,rfl,_,_⟩ _|intro _ _ _ _ _ _ _))|(refine sx ?_;intro _ _)|((with_reducible refine g_awp ?_);simp only [g0,g1,g2]))
    refine aw_call (c _ _ _ (Pol.rep_iff.2 ⟨_, rfl, slr_auto⟩)) ?_
    rintro _ h2 ⟨e2, _, G2, rfl, r2, o2⟩
    rw [Pol.rep_iff] at r2
    obtain ⟨w2, rfl, q2⟩ := r2
    have n2 := e2.1
    (try simp only [push_n, upd_n] at n2)
    (repeat' first|refine vs ?_|(refine br ?_ ?_<;>intro _<;>try(exfalso;first|omega|contradiction))|((with_reducible refine g_idx ?_);((first|refine ix ?_|refine ixi ?_|(refine ixg ?_;intro _ _)|(refine ixgi ?_;intro _ _));first|rintro _ _ _ _ _ ⟨rfl,rfl⟩ _|rintro _ _ _ _ _ ⟨_,rfl,_⟩ _|rintro _ _ _ _ _ ⟨_,_,_,_,rfl,rfl,_,_⟩ _|intro _ _ _ _ _ _ _))|(refine sx ?_;intro _ _)|((with_reducible refine g_awp ?_);simp only [g0,g1,g2]))
    have hlen : (x.l.take i).length = i := by rw [List.length_take]; omega
    refine app1 (n := h.n + 1 + 1 + 1) (xs := x.l.take i) (Fx := G) (a := y) slr_auto (Pol.rep_iff.2 ⟨_, rfl, slr_auto⟩) (own_app (ol_auto) (ol_auto : Own h1.n _ G2) (by omega) dis_auto) om_auto rfl ?_ ?_ ?_
    · rw [hlen]; omega
    · rw [hlen]; omega
    intro u' h' F' ek kp r' o'
    have n3 := kp.1
    (try simp only [push_n, upd_n] at n3)
    (repeat' first|refine vs ?_|(refine br ?_ ?_<;>intro _<;>try(exfalso;first|omega|contradiction))|((with_reducible refine g_idx ?_);((first|refine ix ?_|refine ixi ?_|(refine ixg ?_;intro _ _)|(refine ixgi ?_;intro _ _));first|rintro _ _ _ _ _ ⟨rfl,rfl⟩ _|rintro _ _ _ _ _ ⟨_,rfl,_⟩ _|rintro _ _ _ _ _ ⟨_,_,_,_,rfl,rfl,_,_⟩ _|intro _ _ _ _ _ _ _))|(refine sx ?_;intro _ _)|((with_reducible refine g_awp ?_);simp only [g0,g1,g2]))
    exact ⟨by omega, u', F', rfl, by omega, bk_auto, bk_auto, bk_auto, (ek h ext_auto (by omega)).upd (by (try simp only [push_n, upd_n]); omega) _, by simp only [upd_n]; omega, by rw [htk]; exact slr_auto, ol_auto⟩
  · have hlen : i = x.l.length := by omega
    subst hlen
    rw [List.take_length] at ru
    (repeat' first|refine vs ?_|(refine br ?_ ?_<;>intro _<;>try(exfalso;first|omega|contradiction))|((with_reducible refine g_idx ?_);((first|refine ix ?_|refine ixi ?_|(refine ixg ?_;intro _ _)|(refine ixgi ?_;intro _ _));first|rintro _ _ _ _ _ ⟨rfl,rfl⟩ _|rintro _ _ _ _ _ ⟨_,rfl,_⟩ _|rintro _ _ _ _ _ ⟨_,_,_,_,rfl,rfl,_,_⟩ _|intro _ _ _ _ _ _ _))|(refine sx ?_;intro _ _)|((with_reducible refine g_awp ?_);simp only [g0,g1,g2]))
    exact ⟨rfl, _, rfl, ext_auto, _, _, rfl, Pol.rep_iff.2 ⟨_, rfl, slr_auto⟩, (ol_auto : Own (h.n + 1 + 1 + 1) _ _).mono (by omega) fun _ _ => rfl⟩
theorem s_impl_copyConf (x : Conf) (hs : Sz.sz x ≤ 67108864) : CopyX Conf Tryz.prog n_impl_copyConf x := by
  rintro cs F h ⟨v0, rfl, r0⟩
  have hx2 : Sz.sz x = Sz.sz x.rule := rfl
  refine c_impl_copyConf _ ?_
  unfold p_impl_copyConf
  (repeat' first|refine vs ?_|(refine br ?_ ?_<;>intro _<;>try(exfalso;first|omega|contradiction))|((with_reducible refine g_callf n_impl_copyPol ?_);(refine aw_call (s_impl_copyPol x.rule (by omega) _ _ _ (Pol.rep_iff.2 ⟨_, rfl, slr_auto⟩)) ?_; rintro _ h2 ⟨e2, _, G2, rfl, r2, o2⟩; rw [Pol.rep_iff] at r2; obtain ⟨w2, rfl, q2⟩ := r2; have n2 := e2.1; (try simp only [push_n, upd_n] at n2)))|((with_reducible refine g_idx ?_);((first|refine ix ?_|refine ixi ?_|(refine ixg ?_;intro _ _)|(refine ixgi ?_;intro _ _));first|rintro _ _ _ _ _ ⟨rfl,rfl⟩ _|rintro _ _ _ _ _ ⟨_,rfl,_⟩ _|rintro _ _ _ _ _ ⟨_,_,_,_,rfl,rfl,_,_⟩ _|intro _ _ _ _ _ _ _))|(refine sx ?_;intro _ _)|((with_reducible refine g_awp ?_);simp only [g0,g1,g2]))
  exact ⟨rfl, _, rfl, ext_auto, _, _, rfl, ⟨_, rfl, slr_auto⟩, ol_auto⟩
theorem s_spec_l13Copy (x : Conf) (hs : Sz.sz x ≤ 67108864) : CopyX Conf Tryz.prog n_spec_l13Copy x := by
  rintro cs F h ⟨v0, rfl, r0⟩
  have hx2 : Sz.sz x = Sz.sz x.rule := rfl
  refine c_spec_l13Copy _ ?_
  unfold p_spec_l13Copy
  (repeat' first|refine vs ?_|(refine br ?_ ?_<;>intro _<;>try(exfalso;first|omega|contradiction))|((with_reducible refine g_callf n_spec_l5Copy ?_);(refine aw_call (s_spec_l5Copy x.rule (by omega) _ _ _ (Pol.rep_iff.2 ⟨_, rfl, slr_auto⟩)) ?_; rintro _ h2 ⟨e2, _, G2, rfl, r2, o2⟩; rw [Pol.rep_iff] at r2; obtain ⟨w2, rfl, q2⟩ := r2; have n2 := e2.1; (try simp only [push_n, upd_n] at n2)))|((with_reducible refine g_idx ?_);((first|refine ix ?_|refine ixi ?_|(refine ixg ?_;intro _ _)|(refine ixgi ?_;intro _ _));first|rintro _ _ _ _ _ ⟨rfl,rfl⟩ _|rintro _ _ _ _ _ ⟨_,rfl,_⟩ _|rintro _ _ _ _ _ ⟨_,_,_,_,rfl,rfl,_,_⟩ _|intro _ _ _ _ _ _ _))|(refine sx ?_;intro _ _)|((with_reducible refine g_awp ?_);simp only [g0,g1,g2]))
  exact ⟨rfl, _, rfl, ext_auto, _, _, rfl, ⟨_, rfl, slr_auto⟩, ol_auto⟩
end Go.Proofs.YtjnekdbdmoibgaaGreat
end
section
/- New wheels and buckets; copies of wheels by the reference. -/
set_option linter.unusedSimpArgs false
set_option linter.unusedVariables false
set_option maxHeartbeats 2000000
namespace Go.Proofs.YtjnekdbdmoibgaaGreat
open Go Go.Ab
section
/- spec.l8Copy -/
def p_spec_l8Copy (x0 : AV) : Prog := .op (.box x0) fun v1 => .op (.alloc [AV.int .i64 0, AV.nils, AV.nils, AV.nils]) fun v2 => .op (.fad 0 v1) fun v3 => .op (.ld1 v3) fun v4 => .op (.fad 1 v1) fun v5 => .op (.ld1 v5) fun v6 => .op (.fad 2 v1) fun v7 => .op (.ld1 v7) fun v8 => .op (.bslice 3 0 [] []) fun v9 => .op (.fad 3 v1) fun v10 => .op (.ld1 v10) fun v11 => .op (.call n_spec_l8Lists [v6]) fun v12 => .chk (.ld1 v3) v4 (.chk (.ld1 v7) v8 (.chk (.bslice 3 0 [] []) v9 (.chk (.ld1 v10) v11 (.op (.call n_spec_l8Lists [v8]) fun v13 => .chk (.ld1 v3) v4 (.chk (.bslice 3 0 [] []) v9 (.chk (.ld1 v10) v11 (.op (.app 3 24 v9 v11) fun v14 => .chk (.ld1 v3) v4 (.op (.build [AV.int .i64 0, AV.nils, AV.nils, AV.nils] [(0, 1, v4), (1, 1, v12), (2, 1, v13), (3, 1, v14)]) fun v15 => .op (.st 4 v2 v15) fun v16 => .fin [.cn 4 v2]))))))))
theorem c_spec_l8Copy (x0 : AV) : CC Tryz.prog n_spec_l8Copy [x0] (p_spec_l8Copy x0) := cc Tryz.func109 [] (fun r => if r = 1 then [(0, []), (1, []), (2, []), (3, []), (5, []), (6, []), (8, []), (9, []), (10, []), (4, [1, 6, 8, 10]), (7, [1, 8, 10]), (11, [1]), (12, []), (13, [])] else []) (by kernel_rfl)
end
theorem s_spec_l8Copy (x : Wheel) (hs : Sz.sz x ≤ 67108864) : CopyX Wheel Tryz.prog n_spec_l8Copy x := by
  rintro cs F h ⟨v0, v1, v2, F0, F1, F2, rfl, rfl, r0, r1, r2⟩
  have hsz : Sz.sz x = (x.near.length + szs x.near) + (x.far.length + szs x.far) + (x.rest.length + szs x.rest) := rfl
  refine c_spec_l8Copy _ ?_
  unfold p_spec_l8Copy
  (repeat' first|refine vs ?_|(refine br ?_ ?_<;>intro _<;>try(exfalso;first|omega|contradiction))|((with_reducible refine g_idx ?_);((first|refine ix ?_|refine ixi ?_|(refine ixg ?_;intro _ _)|(refine ixgi ?_;intro _ _));first|rintro _ _ _ _ _ ⟨rfl,rfl⟩ _|rintro _ _ _ _ _ ⟨_,rfl,_⟩ _|rintro _ _ _ _ _ ⟨_,_,_,_,rfl,rfl,_,_⟩ _|intro _ _ _ _ _ _ _))|(refine sx ?_;intro _ _)|((with_reducible refine g_awp ?_);simp only [g0,g1,g2]))
  obtain ⟨re, oe⟩ := empty_own (h := (h.push ⟨x.cs v0 v1 v2, 0, 0⟩).push ⟨[AV.int .i64 0, AV.nils, AV.nils, AV.nils], 0, 0⟩) (α := Ab.Timer) (w := 3) rfl
  have oe := oe (h.n + 1 + 1) (by simp)
  obtain ⟨H, hH⟩ : ∃ H, H = (((h.push ⟨x.cs v0 v1 v2, 0, 0⟩).push ⟨[AV.int .i64 0, AV.nils, AV.nils, AV.nils], 0, 0⟩).push ⟨[], 3, 0⟩) := ⟨_, rfl⟩
  have nH : H.n = h.n + 1 + 1 + 1 := by rw [hH]; rfl
  have eH : Ext h H := by rw [hH]; exact ((Ext.refl h).push _).push _ |>.push _
  have bx : Bk H h.n (x.cs v0 v1 v2) 0 := by rw [hH]; exact bk_auto
  have bo : Bk H (h.n + 1) [AV.int .i64 0, AV.nils, AV.nils, AV.nils] 0 := by rw [hH]; exact bk_auto
  have be : Bk H (h.n + 1 + 1) [] 3 := by rw [hH]; exact bk_push
  rw [← hH] at re oe
  have hH' := hH.symm
  simp only [push_n] at hH' re oe
  clear hH
  try rw [hH']
  clear hH'
  have r0 := r0.ext eH
  have r1 := r1.ext eH
  have r2 := r2.ext eH
  refine aw_call (s_spec_l8Lists x.near (by omega) _ _ _ r0) ?_
  rintro w1 h1 ⟨e1, G1, q1, o1⟩
  have n1 := e1.1
  have bx1 := bk_ext1 e1 bx
  have be1 := bk_ext1 e1 be
  have r2 := r2.ext e1
  have r1 := r1.ext e1
  (repeat' first|refine vs ?_|((with_reducible refine g_chkb ?_);refine w_chkb (by assumption) (by rfl) (by decide) (by rfl) ?_)|(refine br ?_ ?_<;>intro _<;>try(exfalso;first|omega|contradiction))|((with_reducible refine g_idx ?_);((first|refine ix ?_|refine ixi ?_|(refine ixg ?_;intro _ _)|(refine ixgi ?_;intro _ _));first|rintro _ _ _ _ _ ⟨rfl,rfl⟩ _|rintro _ _ _ _ _ ⟨_,rfl,_⟩ _|rintro _ _ _ _ _ ⟨_,_,_,_,rfl,rfl,_,_⟩ _|intro _ _ _ _ _ _ _))|(refine sx ?_;intro _ _)|((with_reducible refine g_awp ?_);simp only [g0,g1,g2]))
  refine aw_call (s_spec_l8Lists x.far (by omega) _ _ _ r1) ?_
  rintro w2 h2 ⟨e2, G2, q2, o2⟩
  have n2 := e2.1
  have bx2 := bk_ext1 e2 bx1
  have be2 := bk_ext1 e2 be1
  have r2 := r2.ext e2
  have re := (re.ext e1).ext e2
  have oe := (ol_ext1 e2 (ol_ext1 e1 ⟨oe, (fun c hc => by rw [List.mem_singleton.1 hc, nH]; omega : ∀ c ∈ [h.n + 1 + 1], c < H.n)⟩)).1
  (repeat' first|refine vs ?_|((with_reducible refine g_chkb ?_);refine w_chkb (by assumption) (by rfl) (by decide) (by rfl) ?_)|(refine br ?_ ?_<;>intro _<;>try(exfalso;first|omega|contradiction))|((with_reducible refine g_idx ?_);((first|refine ix ?_|refine ixi ?_|(refine ixg ?_;intro _ _)|(refine ixgi ?_;intro _ _));first|rintro _ _ _ _ _ ⟨rfl,rfl⟩ _|rintro _ _ _ _ _ ⟨_,rfl,_⟩ _|rintro _ _ _ _ _ ⟨_,_,_,_,rfl,rfl,_,_⟩ _|intro _ _ _ _ _ _ _))|(refine sx ?_;intro _ _)|((with_reducible refine g_awp ?_);simp only [g0,g1,g2]))
  refine app2M (n := h.n + 1 + 1) (xs := ([] : List Ab.Timer)) (ys := x.rest) re r2 oe (by omega) rfl (by simp; omega) (by simp; omega) ?_
  rintro w3 h3 G3 k3 q3 o3 m3
  have n3 := k3.1
  have bx3 := bk_kp1 k3 bx2 (by simp only [List.mem_singleton]; omega)
  have bo3 := bk_kp1 k3 (bk_ext1 e2 (bk_ext1 e1 bo)) (by simp only [List.mem_singleton]; omega)
  have d1 : ∀ c ∈ G1, c ∉ [h.n + 1 + 1] := fun c hc hX => by have := (o1.2 c hc).1; have := List.mem_singleton.1 hX; omega
  have d2 : ∀ c ∈ G2, c ∉ [h.n + 1 + 1] := fun c hc hX => by have := (o2.2 c hc).1; have := List.mem_singleton.1 hX; omega
  have l1 := q1.lt
  have l2 := q2.lt
  have o1' := ol_kp1 k3 (ol_ext1 e2 ⟨o1, l1⟩) d1
  have o2' := ol_kp1 k3 ⟨o2, l2⟩ d2
  have q1' := slr_kp1 k3 (q1.ext e2) d1
  have q2' := slr_kp1 k3 q2 d2
  have eT : Ext h h3 := Kp.ext (eH.trans (e1.trans e2)) k3 fun c hc => by rw [List.mem_singleton.1 hc]; omega
  have q3' : SlRep h3 w3 x.rest G3 := q3
  (repeat' first|refine vs ?_|(refine br ?_ ?_<;>intro _<;>try(exfalso;first|omega|contradiction))|((with_reducible refine g_idx ?_);((first|refine ix ?_|refine ixi ?_|(refine ixg ?_;intro _ _)|(refine ixgi ?_;intro _ _));first|rintro _ _ _ _ _ ⟨rfl,rfl⟩ _|rintro _ _ _ _ _ ⟨_,rfl,_⟩ _|rintro _ _ _ _ _ ⟨_,_,_,_,rfl,rfl,_,_⟩ _|intro _ _ _ _ _ _ _))|(refine sx ?_;intro _ _)|((with_reducible refine g_awp ?_);simp only [g0,g1,g2]))
  refine ⟨rfl, _, rfl, eT.upd (by simp only [push_n]; omega) _, _, G1 ++ (G2 ++ G3), rfl, ⟨_, _, _, _, _, _, rfl, rfl, ?_, ?_, ?_⟩, ?_⟩
  · refine slr_upd1 q1' fun hm => ?_
    have := (o1.2 _ hm).1; simp only [push_n] at this; omega
  · refine slr_upd1 q2' fun hm => ?_
    have := (o2.2 _ hm).1; simp only [push_n] at this; omega
  · refine slr_upd1 q3' fun hm => ?_
    rcases m3 _ hm with q | q
    · have := List.mem_singleton.1 q; simp only [push_n] at this; omega
    · simp only [push_n] at q; omega
  · have oo : OwnL (h.n + 1 + 1) h3 (G1 ++ (G2 ++ G3)) := ol_app2 ⟨o1'.1.mono (by omega) fun _ _ => rfl, o1'.2⟩ (ol_app2 ⟨o2'.1.mono (by omega) fun _ _ => rfl, o2'.2⟩ ⟨o3, q3.lt⟩ fun c hc hm => by
      rcases m3 c hm with q | q
      · exact d2 c hc q
      · have := l2 c hc; omega) fun c hc hm => by
      rcases List.mem_append.1 hm with hm | hm
      · have := l1 c hc; have := (o2.2 c hm).1; omega
      · rcases m3 c hm with q | q
        · exact d1 c hc q
        · have := l1 c hc; omega
    refine (ol_upd1 oo fun hm => ?_).1.mono (by omega) fun _ _ => rfl
    have := (oo.1.2 _ hm).1; simp only [push_n] at this; omega
end Go.Proofs.YtjnekdbdmoibgaaGreat
end
section
/- What is remembered: the functions (turned from V1, V3, V6, V7). -/
set_option linter.unusedSimpArgs false
set_option linter.unusedVariables false
set_option maxHeartbeats 2000000
namespace Go.Proofs.YtjnekdbdmoibgaaGreat
open Go Go.Ab
section
/- impl.VerdictOf -/
/- spec.VerdictOf -/
/- impl.Remember$1 -/
/- slices.DeleteFunc[[]impl.Verdict,impl.Verdict] -/
/- impl.Remember -/
/- spec.Remember -/
end
def keepers (xs : List Verdict) (v : Verdict) : List Verdict := (xs.filter fun x => !isT v.trace x) ++ [v]
def gone (l : List Verdict) (d : Nat) : Int := match d with
  | 0 => 0
  | d + 1 => match l[d]? with
    | some v => v.trace
    | none => 0
def rem (xs : List Verdict) (v : Verdict) (most : Int) : List Verdict × Int :=
  if most < 1 then (xs, 0) else ((keepers xs v).drop ((keepers xs v).length - most.toNat), gone (keepers xs v) ((keepers xs v).length - most.toNat))

section
variable {P : Program} {h : AH} {Q : Nat → List AV → AH → Prop} {k : AV → Prog}
end
end Go.Proofs.YtjnekdbdmoibgaaGreat
end
section
/- Worlds: the time, and how many are busy. -/
set_option linter.unusedSimpArgs false
set_option linter.unusedVariables false
set_option maxHeartbeats 4000000
namespace Go.Proofs.YtjnekdbdmoibgaaGreat
open Go Go.Ab
section
/- impl.TimeOf -/
def p_impl_TimeOf (x0 : AV) : Prog := .op (.box x0) fun v1 => .op (.fad 22 v1) fun v2 => .op (.fad 0 v2) fun v3 => .op (.ld1 v3) fun v4 => .fin [.val v4]
theorem c_impl_TimeOf (x0 : AV) : CC Tryz.prog n_impl_TimeOf [x0] (p_impl_TimeOf x0) := cc Tryz.func93 [] (fun _ => []) (by kernel_rfl)
/- impl.Busy -/
/- spec.Busy -/
end
theorem s_impl_TimeOf {h : AH} {x : Wld} {cs : List AV} {F : List Nat} (r : Cel.rep h x cs F) : RCalls Tryz.prog n_impl_TimeOf [.agg cs] h (.int .i64 x.w.now) := by
  obtain ⟨v0, v1, v2, v3, v4, v5, v6, v7, v8, v9, v10, F0, F1, F2, F3, F4, F5, F6, F7, F8, F9, F10, rfl, rfl, r0, r1, r2, r3, r4, r5, r6, r7, r8, r9, r10⟩ := r
  refine reader (c_impl_TimeOf _) (by simp only [old]) ?_
  unfold p_impl_TimeOf
  (repeat' first|refine vs ?_|(refine br ?_ ?_<;>intro _<;>try(exfalso;first|omega|contradiction))|((with_reducible refine g_idx ?_);((first|refine ix ?_|refine ixi ?_|(refine ixg ?_;intro _ _)|(refine ixgi ?_;intro _ _));first|rintro _ _ _ _ _ ⟨rfl,rfl⟩ _|rintro _ _ _ _ _ ⟨_,rfl,_⟩ _|rintro _ _ _ _ _ ⟨_,_,_,_,rfl,rfl,_,_⟩ _|intro _ _ _ _ _ _ _))|(refine sx ?_;intro _ _)|((with_reducible refine g_awp ?_);simp only [g0,g1,g2]))
  exact pi rfl
end Go.Proofs.YtjnekdbdmoibgaaGreat
end
