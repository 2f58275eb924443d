
/- Wheels: what is in them, and which may be. -/
import Derived.Test.YtideefohbkhhhaaGreatW1
import Derived.Test.YtideefohbkhhhaaGreatK4
set_option linter.unusedSimpArgs false
set_option linter.unusedVariables false
set_option maxHeartbeats 2000000
namespace Go.Proofs.YtideefohbkhhhaaGreat
open Go Go.Ab
section
/- impl.Timers -/
def p_impl_Timers (x0 : AV) : Prog := .op (.box x0) fun v1 => .op (.fad 1 v1) fun v2 => .op (.ld1 v2) fun v3 => .op (.len 0 v3) fun v4 => .loop [AV.nils, AV.int .i64 0] (fun vs5 => .op (.bin 0 .lss (g vs5 1) v4) fun v7 => .ite v7 (.op (.idx 1 v3 (g vs5 1)) fun v8 => .op (.ld1 v8) fun v9 => .op (.app 3 24 (g vs5 0) v9) fun v10 => .op (.bin 0 .add (g vs5 1) (AV.int .i64 1)) fun v11 => .leaf 0 [v10, v11]) (.leaf 2 [g vs5 0, g vs5 1])) fun t6 vs5 => tsel t6 1 (.leaf 1 vs5) (tsel t6 2 (.op (.fad 2 v1) fun v12 => .op (.ld1 v12) fun v13 => .op (.len 0 v13) fun v14 => .loop [g vs5 0, AV.int .i64 0] (fun vs15 => .op (.bin 0 .lss (g vs15 1) v14) fun v17 => .ite v17 (.op (.idx 1 v13 (g vs15 1)) fun v18 => .op (.ld1 v18) fun v19 => .op (.app 3 24 (g vs15 0) v19) fun v20 => .op (.bin 0 .add (g vs15 1) (AV.int .i64 1)) fun v21 => .leaf 0 [v20, v21]) (.leaf 4 [g vs15 0, g vs15 1])) fun t16 vs15 => tsel t16 1 (.leaf 1 vs15) (tsel t16 4 (.op (.fad 3 v1) fun v22 => .op (.ld1 v22) fun v23 => .op (.app 3 24 (g vs15 0) v23) fun v24 => .fin [.val v24]) .bad)) .bad)
theorem c_impl_Timers (x0 : AV) : CC Tryz.prog n_impl_Timers [x0] (p_impl_Timers x0) := cc Tryz.func142 [1, 3, 9, 10, 11, 20, 21, 22] (fun _ => []) (by kernel_rfl)
/- spec.Timers -/
def p_spec_Timers (x0 : AV) : Prog := .op (.box x0) fun v1 => .op (.bslice 3 0 [] []) fun v2 => .loop [v2, AV.int .i64 0] (fun vs3 => .op (.fad 1 v1) fun v5 => .op (.ld1 v5) fun v6 => .op (.len 0 v6) fun v7 => .op (.bin 0 .lss (g vs3 1) v7) fun v8 => .ite v8 (.op (.fad 1 v1) fun v9 => .op (.ld1 v9) fun v10 => .op (.idx 1 v10 (g vs3 1)) fun v11 => .op (.ld1 v11) fun v12 => .op (.app 3 24 (g vs3 0) v12) fun v13 => .op (.bin 0 .add (g vs3 1) (AV.int .i64 1)) fun v14 => .leaf 0 [v13, v14]) (.leaf 2 [g vs3 0, g vs3 1])) fun t4 vs3 => tsel t4 1 (.leaf 1 vs3) (tsel t4 2 (.loop [g vs3 0, AV.int .i64 0] (fun vs15 => .op (.fad 2 v1) fun v17 => .op (.ld1 v17) fun v18 => .op (.len 0 v18) fun v19 => .op (.bin 0 .lss (g vs15 1) v19) fun v20 => .ite v20 (.op (.fad 2 v1) fun v21 => .op (.ld1 v21) fun v22 => .op (.idx 1 v22 (g vs15 1)) fun v23 => .op (.ld1 v23) fun v24 => .op (.app 3 24 (g vs15 0) v24) fun v25 => .op (.bin 0 .add (g vs15 1) (AV.int .i64 1)) fun v26 => .leaf 0 [v25, v26]) (.leaf 4 [g vs15 0, g vs15 1])) fun t16 vs15 => tsel t16 1 (.leaf 1 vs15) (tsel t16 4 (.op (.fad 3 v1) fun v27 => .op (.ld1 v27) fun v28 => .op (.app 3 24 (g vs15 0) v28) fun v29 => .fin [.val v29]) .bad)) .bad)
theorem c_spec_Timers (x0 : AV) : CC Tryz.prog n_spec_Timers [x0] (p_spec_Timers x0) := cc Tryz.func50 [1, 3, 4, 5] (fun _ => []) (by kernel_rfl)
/- impl.belongs -/
def p_impl_belongs (x0 x1 x2 x3 : AV) : Prog := .op (.box x0) fun v1 => .op (.len 0 x1) fun v2 => .loop [.tup [], AV.int .i64 0] (fun vs3 => .op (.bin 0 .lss (g vs3 1) v2) fun v5 => .ite v5 (.op (.idx 3 x1 (g vs3 1)) fun v6 => .op (.ldn 3 v6) fun v7 => .op (.alloc [AV.int .i64 0, AV.int .i64 0, AV.int .i64 0]) fun v8 => .op (.st 3 v8 v7) fun v9 => .op (.fad 0 v8) fun v10 => .op (.ld1 v10) fun v11 => .op (.bin 0 .lss v11 (AV.int .i64 1)) fun v12 => .gop v12 false (.fad 1 v8) fun v13 => .gop v12 false (.ld1 v13) fun v14 => .gop v12 false (.call n_impl_within [v14, AV.int .i64 1, AV.int .i64 999]) fun v15 => .gop v12 false (.una .not v15) fun v16 => .op (.pick v12 (AV.bool true) v16) fun v17 => .gop v17 false (.fad 2 v8) fun v18 => .gop v17 false (.ld1 v18) fun v19 => .gop v17 false (.fad 0 v1) fun v20 => .gop v17 false (.ld1 v20) fun v21 => .gop v17 false (.bin 0 .leq v19 v21) fun v22 => .op (.pick v17 (AV.bool true) v22) fun v23 => .gop v23 false (.fad 2 v8) fun v24 => .gop v23 false (.ld1 v24) fun v25 => .gop v23 false (.bin 0 .gtr v25 (AV.int .i64 2147483647)) fun v26 => .op (.pick v23 (AV.bool true) v26) fun v27 => .ite v27 (.fin [.val (AV.bool false)]) (.op (.fad 2 v8) fun v28 => .op (.ld1 v28) fun v29 => .op (.bin 0 .quo v29 (AV.int .i64 8)) fun v30 => .op (.fad 0 v1) fun v31 => .op (.ld1 v31) fun v32 => .op (.bin 0 .quo v32 (AV.int .i64 8)) fun v33 => .op (.bin 0 .sub v30 v33) fun v34 => .op (.bin 0 .geq v34 (AV.int .i64 8)) fun v35 => .op (.bin 0 .eql x2 (AV.int .i64 0)) fun v36 => .scope (.ite v36 (.op (.bin 0 .eql v34 (AV.int .i64 0)) fun v37 => .gop v37 true (.fad 2 v8) fun v38 => .gop v37 true (.ld1 v38) fun v39 => .gop v37 true (.bin 0 .rem v39 (AV.int .i64 8)) fun v40 => .gop v37 true (.mv x3) fun v41 => .gop v37 true (.bin 0 .eql v40 v41) fun v42 => .op (.pick v37 v42 (AV.bool false)) fun v43 => .leaf 0 [v43]) (.op (.bin 0 .eql x2 (AV.int .i64 1)) fun v44 => .scope (.ite v44 (.op (.call n_impl_within [v34, AV.int .i64 1, AV.int .i64 7]) fun v45 => .gop v45 true (.fad 2 v8) fun v46 => .gop v45 true (.ld1 v46) fun v47 => .gop v45 true (.bin 0 .quo v47 (AV.int .i64 8)) fun v48 => .gop v45 true (.bin 0 .rem v48 (AV.int .i64 8)) fun v49 => .gop v45 true (.mv x3) fun v50 => .gop v45 true (.bin 0 .eql v49 v50) fun v51 => .op (.pick v45 v51 (AV.bool false)) fun v52 => .leaf 0 [v52]) (.leaf 0 [v35])) (fun vs53 => .leaf 0 [g vs53 0]) fun t54 vs53 => tsel t54 1 (.leaf 1 vs53) .bad)) (fun vs55 => .op (.una .not (g vs55 0)) fun v57 => .ite v57 (.fin [.val (AV.bool false)]) (.op (.bin 0 .add (g vs3 1) (AV.int .i64 1)) fun v58 => .leaf 0 [g vs55 0, v58])) fun t56 vs55 => tsel t56 1 (.leaf 1 vs55) .bad)) (.leaf 2 [g vs3 0, g vs3 1])) fun t4 vs3 => tsel t4 1 (.leaf 1 vs3) (tsel t4 2 (.fin [.val (AV.bool true)]) .bad)
theorem c_impl_belongs (x0 x1 x2 x3 : AV) : CC Tryz.prog n_impl_belongs [x0, x1, x2, x3] (p_impl_belongs x0 x1 x2 x3) := cc Tryz.func218 [2, 3, 4, 12, 13, 14, 15] (fun _ => []) (by kernel_rfl)
/- spec.l8Place -/
def p_spec_l8Place (x0 x1 : AV) : Prog := .op (.bin 0 .quo x1 (AV.int .i64 8)) fun v1 => .op (.bin 0 .quo x0 (AV.int .i64 8)) fun v2 => .op (.bin 0 .eql v1 v2) fun v3 => .ite v3 (.op (.bin 0 .rem x1 (AV.int .i64 8)) fun v4 => .fin [.val (AV.int .i64 1), .val v4]) (.op (.bin 0 .quo x1 (AV.int .i64 8)) fun v5 => .op (.bin 0 .quo x0 (AV.int .i64 8)) fun v6 => .op (.bin 0 .sub v5 v6) fun v7 => .op (.bin 0 .lss v7 (AV.int .i64 8)) fun v8 => .ite v8 (.op (.bin 0 .quo x1 (AV.int .i64 8)) fun v9 => .op (.bin 0 .rem v9 (AV.int .i64 8)) fun v10 => .fin [.val (AV.int .i64 2), .val v10]) (.fin [.val (AV.int .i64 3), .val (AV.int .i64 0)]))
theorem c_spec_l8Place (x0 x1 : AV) : CC Tryz.prog n_spec_l8Place [x0, x1] (p_spec_l8Place x0 x1) := cc Tryz.func208 [] (fun _ => []) (by kernel_rfl)
/- spec.l8Slot -/
def p_spec_l8Slot (x0 x1 x2 x3 : AV) : Prog := .op (.box x0) fun v1 => .loop [AV.int .i64 0] (fun vs2 => .op (.len 0 x1) fun v4 => .op (.bin 0 .lss (g vs2 0) v4) fun v5 => .ite v5 (.op (.idx 3 x1 (g vs2 0)) fun v6 => .op (.ldn 3 v6) fun v7 => .op (.alloc [AV.int .i64 0, AV.int .i64 0, AV.int .i64 0]) fun v8 => .op (.st 3 v8 v7) fun v9 => .op (.fad 0 v8) fun v10 => .op (.ld1 v10) fun v11 => .op (.bin 0 .lss v11 (AV.int .i64 1)) fun v12 => .gop v12 false (.fad 1 v8) fun v13 => .gop v12 false (.ld1 v13) fun v14 => .gop v12 false (.call n_spec_l1In [v14, AV.int .i64 1, AV.int .i64 999]) fun v15 => .gop v12 false (.una .not v15) fun v16 => .op (.pick v12 (AV.bool true) v16) fun v17 => .gop v17 false (.fad 2 v8) fun v18 => .gop v17 false (.ld1 v18) fun v19 => .gop v17 false (.fad 0 v1) fun v20 => .gop v17 false (.ld1 v20) fun v21 => .gop v17 false (.bin 0 .add v21 (AV.int .i64 1)) fun v22 => .gop v17 false (.call n_spec_l1In [v19, v22, AV.int .i64 2147483647]) fun v23 => .gop v17 false (.una .not v23) fun v24 => .op (.pick v17 (AV.bool true) v24) fun v25 => .ite v25 (.fin [.val (AV.bool false)]) (.op (.fad 0 v1) fun v26 => .op (.ld1 v26) fun v27 => .op (.fad 2 v8) fun v28 => .op (.ld1 v28) fun v29 => .op (.call n_spec_l8Place [v27, v29]) fun v30 => .op (.ext v30 0) fun v31 => .op (.ext v30 1) fun v32 => .op (.bin 0 .neq v31 x2) fun v33 => .gop v33 false (.mv v32) fun v34 => .gop v33 false (.mv x3) fun v35 => .gop v33 false (.bin 0 .neq v34 v35) fun v36 => .op (.pick v33 (AV.bool true) v36) fun v37 => .ite v37 (.fin [.val (AV.bool false)]) (.op (.bin 0 .add (g vs2 0) (AV.int .i64 1)) fun v38 => .leaf 0 [v38]))) (.leaf 2 [g vs2 0])) fun t3 vs2 => tsel t3 1 (.leaf 1 vs2) (tsel t3 2 (.fin [.val (AV.bool true)]) .bad)
theorem c_spec_l8Slot (x0 x1 x2 x3 : AV) : CC Tryz.prog n_spec_l8Slot [x0, x1, x2, x3] (p_spec_l8Slot x0 x1 x2 x3) := cc Tryz.func124 [1, 2, 3, 4, 9] (fun _ => []) (by kernel_rfl)
/- impl.timerAt$1 -/
def p_impl_timerAt_1 (x0 x1 : AV) : Prog := .op (.box x0) fun v1 => .op (.fad 0 v1) fun v2 => .op (.ld1 v2) fun v3 => .op (.ld1 x1) fun v4 => .op (.bin 0 .eql v3 v4) fun v5 => .fin [.val v5]
theorem c_impl_timerAt_1 (x0 x1 : AV) : CC Tryz.prog n_impl_timerAt_1 [x0, x1] (p_impl_timerAt_1 x0 x1) := cc Tryz.func269 [] (fun _ => []) (by kernel_rfl)
/- slices.IndexFunc[[]impl.Timer,impl.Timer] -/
def p_slices_IndexFunc_Timer (x0 x1 : AV) : Prog := .op (.len 0 x0) fun v1 => .loop [AV.int .i64 0] (fun vs2 => .op (.bin 0 .lss (g vs2 0) v1) fun v4 => .ite v4 (.op (.idx 3 x0 (g vs2 0)) fun v5 => .op (.ldn 3 v5) fun v6 => .op (.callv x1 [v6]) fun v7 => .ite v7 (.fin [.val (g vs2 0)]) (.op (.bin 0 .add (g vs2 0) (AV.int .i64 1)) fun v8 => .leaf 0 [v8])) (.leaf 2 [g vs2 0])) fun t3 vs2 => tsel t3 1 (.leaf 1 vs2) (tsel t3 2 (.fin [.val (AV.int .i64 (-1))]) .bad)
theorem c_slices_IndexFunc_Timer (x0 x1 : AV) : CC Tryz.prog n_slices_IndexFunc_Timer [x0, x1] (p_slices_IndexFunc_Timer x0 x1) := cc Tryz.func229 [0, 1, 7, 8] (fun _ => []) (by kernel_rfl)
/- impl.timerAt -/
def p_impl_timerAt (x0 x1 : AV) : Prog := .op (.box x1) fun v1 => .op (.mkfn n_impl_timerAt_1 [v1]) fun v2 => .op (.call n_slices_IndexFunc_Timer [x0, v2]) fun v3 => .fin [.val v3]
theorem c_impl_timerAt (x0 x1 : AV) : CC Tryz.prog n_impl_timerAt [x0, x1] (p_impl_timerAt x0 x1) := cc Tryz.func219 [] (fun _ => []) (by kernel_rfl)
/- impl.WheelOk -/
def p_impl_WheelOk (x0 : AV) : Prog := .op (.box x0) fun v1 => .op (.fad 0 v1) fun v2 => .op (.ld1 v2) fun v3 => .op (.call n_impl_within [v3, AV.int .i64 0, AV.int .i64 2147483647]) fun v4 => .op (.una .not v4) fun v5 => .gop v5 false (.fad 1 v1) fun v6 => .gop v5 false (.ld1 v6) fun v7 => .gop v5 false (.len 0 v7) fun v8 => .gop v5 false (.bin 0 .neq v8 (AV.int .i64 8)) fun v9 => .op (.pick v5 (AV.bool true) v9) fun v10 => .gop v10 false (.fad 2 v1) fun v11 => .gop v10 false (.ld1 v11) fun v12 => .gop v10 false (.len 0 v12) fun v13 => .gop v10 false (.bin 0 .neq v13 (AV.int .i64 8)) fun v14 => .op (.pick v10 (AV.bool true) v14) fun v15 => .gop v15 false (.ldn 4 v1) fun v16 => .gop v15 false (.fad 3 v1) fun v17 => .gop v15 false (.ld1 v17) fun v18 => .gop v15 false (.call n_impl_belongs [v16, v18, AV.int .i64 2, AV.int .i64 0]) fun v19 => .gop v15 false (.una .not v19) fun v20 => .op (.pick v15 (AV.bool true) v20) fun v21 => .ite v21 (.fin [.val (AV.bool false)]) (.loop [AV.int .i64 0] (fun vs22 => .op (.bin 0 .lss (g vs22 0) (AV.int .i64 8)) fun v24 => .ite v24 (.op (.ldn 4 v1) fun v25 => .op (.fad 1 v1) fun v26 => .op (.ld1 v26) fun v27 => .op (.idx 1 v27 (g vs22 0)) fun v28 => .op (.ld1 v28) fun v29 => .op (.call n_impl_belongs [v25, v29, AV.int .i64 0, g vs22 0]) fun v30 => .op (.una .not v30) fun v31 => .gop v31 false (.ldn 4 v1) fun v32 => .gop v31 false (.fad 2 v1) fun v33 => .gop v31 false (.ld1 v33) fun v34 => .gop v31 false (.mv (g vs22 0)) fun v35 => .gop v31 false (.idx 1 v34 v35) fun v36 => .gop v31 false (.ld1 v36) fun v37 => .gop v31 false (.mv (g vs22 0)) fun v38 => .gop v31 false (.call n_impl_belongs [v32, v37, AV.int .i64 1, v38]) fun v39 => .gop v31 false (.una .not v39) fun v40 => .op (.pick v31 (AV.bool true) v40) fun v41 => .ite v41 (.fin [.val (AV.bool false)]) (.op (.bin 0 .add (g vs22 0) (AV.int .i64 1)) fun v42 => .leaf 0 [v42])) (.leaf 2 [g vs22 0])) fun t23 vs22 => tsel t23 1 (.leaf 1 vs22) (tsel t23 2 (.op (.ldn 4 v1) fun v43 => .op (.call n_impl_Timers [v43]) fun v44 => .op (.len 0 v44) fun v45 => .loop [AV.int .i64 0] (fun vs46 => .op (.bin 0 .lss (g vs46 0) v45) fun v48 => .ite v48 (.op (.idx 3 v44 (g vs46 0)) fun v49 => .op (.ldn 3 v49) fun v50 => .op (.alloc [AV.int .i64 0, AV.int .i64 0, AV.int .i64 0]) fun v51 => .op (.st 3 v51 v50) fun v52 => .op (.fad 0 v51) fun v53 => .op (.ld1 v53) fun v54 => .op (.call n_impl_timerAt [v44, v54]) fun v55 => .op (.bin 0 .neq v55 (g vs46 0)) fun v56 => .ite v56 (.fin [.val (AV.bool false)]) (.op (.bin 0 .add (g vs46 0) (AV.int .i64 1)) fun v57 => .leaf 0 [v57])) (.leaf 4 [g vs46 0])) fun t47 vs46 => tsel t47 1 (.leaf 1 vs46) (tsel t47 4 (.op (.len 0 v44) fun v58 => .op (.bin 0 .leq v58 (AV.int .i64 16)) fun v59 => .fin [.val v59]) .bad)) .bad))
theorem c_impl_WheelOk (x0 : AV) : CC Tryz.prog n_impl_WheelOk [x0] (p_impl_WheelOk x0) := cc Tryz.func141 [1, 3, 4, 56, 57, 58] (fun r => if r = 6 then [(0, []), (1, []), (2, []), (3, []), (4, []), (5, []), (6, []), (7, []), (8, []), (9, []), (10, []), (11, []), (12, []), (13, []), (14, []), (15, []), (16, []), (17, []), (18, []), (19, [])] else []) (by kernel_rfl)
/- spec.WheelOk -/
def p_spec_WheelOk (x0 : AV) : Prog := .op (.box x0) fun v1 => .op (.fad 1 v1) fun v2 => .op (.ld1 v2) fun v3 => .op (.len 0 v3) fun v4 => .op (.bin 0 .neq v4 (AV.int .i64 8)) fun v5 => .gop v5 false (.fad 2 v1) fun v6 => .gop v5 false (.ld1 v6) fun v7 => .gop v5 false (.len 0 v7) fun v8 => .gop v5 false (.bin 0 .neq v8 (AV.int .i64 8)) fun v9 => .op (.pick v5 (AV.bool true) v9) fun v10 => .gop v10 false (.fad 0 v1) fun v11 => .gop v10 false (.ld1 v11) fun v12 => .gop v10 false (.call n_spec_l1In [v12, AV.int .i64 0, AV.int .i64 2147483647]) fun v13 => .gop v10 false (.una .not v13) fun v14 => .op (.pick v10 (AV.bool true) v14) fun v15 => .gop v15 false (.ldn 4 v1) fun v16 => .gop v15 false (.fad 3 v1) fun v17 => .gop v15 false (.ld1 v17) fun v18 => .gop v15 false (.call n_spec_l8Slot [v16, v18, AV.int .i64 3, AV.int .i64 0]) fun v19 => .gop v15 false (.una .not v19) fun v20 => .op (.pick v15 (AV.bool true) v20) fun v21 => .ite v21 (.fin [.val (AV.bool false)]) (.loop [AV.int .i64 0] (fun vs22 => .op (.bin 0 .lss (g vs22 0) (AV.int .i64 8)) fun v24 => .ite v24 (.op (.ldn 4 v1) fun v25 => .op (.fad 1 v1) fun v26 => .op (.ld1 v26) fun v27 => .op (.idx 1 v27 (g vs22 0)) fun v28 => .op (.ld1 v28) fun v29 => .op (.call n_spec_l8Slot [v25, v29, AV.int .i64 1, g vs22 0]) fun v30 => .op (.una .not v30) fun v31 => .gop v31 false (.ldn 4 v1) fun v32 => .gop v31 false (.fad 2 v1) fun v33 => .gop v31 false (.ld1 v33) fun v34 => .gop v31 false (.mv (g vs22 0)) fun v35 => .gop v31 false (.idx 1 v34 v35) fun v36 => .gop v31 false (.ld1 v36) fun v37 => .gop v31 false (.mv (g vs22 0)) fun v38 => .gop v31 false (.call n_spec_l8Slot [v32, v37, AV.int .i64 2, v38]) fun v39 => .gop v31 false (.una .not v39) fun v40 => .op (.pick v31 (AV.bool true) v40) fun v41 => .ite v41 (.fin [.val (AV.bool false)]) (.op (.bin 0 .add (g vs22 0) (AV.int .i64 1)) fun v42 => .leaf 0 [v42])) (.leaf 2 [g vs22 0])) fun t23 vs22 => tsel t23 1 (.leaf 1 vs22) (tsel t23 2 (.op (.ldn 4 v1) fun v43 => .op (.call n_spec_Timers [v43]) fun v44 => .loop [AV.int .i64 0, .tup []] (fun vs45 => .op (.len 0 v44) fun v47 => .op (.bin 0 .lss (g vs45 0) v47) fun v48 => .ite v48 (.loop [AV.int .i64 0] (fun vs49 => .op (.bin 0 .lss (g vs49 0) (g vs45 0)) fun v51 => .ite v51 (.op (.idx 3 v44 (g vs49 0)) fun v52 => .op (.fad 0 v52) fun v53 => .op (.ld1 v53) fun v54 => .op (.idx 3 v44 (g vs45 0)) fun v55 => .op (.fad 0 v55) fun v56 => .op (.ld1 v56) fun v57 => .op (.bin 0 .eql v54 v57) fun v58 => .ite v58 (.fin [.val (AV.bool false)]) (.op (.bin 0 .add (g vs49 0) (AV.int .i64 1)) fun v59 => .leaf 0 [v59])) (.leaf 6 [g vs49 0])) fun t50 vs49 => tsel t50 1 (.leaf 1 vs49) (tsel t50 6 (.op (.bin 0 .add (g vs45 0) (AV.int .i64 1)) fun v60 => .leaf 0 [v60, g vs49 0]) .bad)) (.leaf 4 [g vs45 0, g vs45 1])) fun t46 vs45 => tsel t46 1 (.leaf 1 vs45) (tsel t46 4 (.op (.len 0 v44) fun v61 => .op (.bin 0 .leq v61 (AV.int .i64 16)) fun v62 => .fin [.val v62]) .bad)) .bad))
theorem c_spec_WheelOk (x0 : AV) : CC Tryz.prog n_spec_WheelOk [x0] (p_spec_WheelOk x0) := cc Tryz.func49 [1, 3, 4, 5, 6] (fun r => if r = 6 then [(0, []), (1, []), (2, []), (3, []), (4, []), (5, []), (6, []), (7, []), (8, []), (9, []), (10, []), (11, []), (12, []), (13, []), (14, []), (15, []), (16, []), (17, []), (18, []), (19, [])] else if r = 15 then [(0, []), (1, []), (2, []), (3, []), (4, []), (5, []), (6, []), (7, []), (8, []), (9, []), (10, [])] else []) (by kernel_rfl)
end
def timers (w : Wheel) : List Ab.Timer := (w.near.flatten ++ w.far.flatten) ++ w.rest
theorem flat_s {l : List (List Ab.Timer)} {i : Nat} {x : List Ab.Timer} (ht : l.take (i + 1) = l.take i ++ [x]) : (l.take (i + 1)).flatten = (l.take i).flatten ++ x := by rw [ht]; simp
theorem flat_b : ∀ l : List (List Ab.Timer), l.flatten.length ≤ szs l
  | [] => by simp
  | x :: l => by
    have := flat_b l
    have h2 : Sz.sz x = x.length + szs x := rfl
    simp only [List.flatten_cons, List.length_append, szs]; omega
theorem s_impl_Timers {h : AH} {w : Wheel} {v0 v1 v2 : AV} {F0 F1 F2 : List Nat} (hs : Sz.sz w ≤ 67108864) (r0 : SlRep h v0 w.near F0) (r1 : SlRep h v1 w.far F1) (r2 : SlRep h v2 w.rest F2) : ACalls Tryz.prog n_impl_Timers [.agg (w.cs v0 v1 v2)] h (NewS Ab.Timer h (timers w)) := by
  have hsz : Sz.sz w = (w.near.length + szs w.near) + (w.far.length + szs w.far) + (w.rest.length + szs w.rest) := rfl
  refine c_impl_Timers _ ?_
  unfold p_impl_Timers
  have hb0 := flat_b w.near
  have hb1 := flat_b w.far
  (repeat' first|refine vs ?_|(refine br ?_ ?_<;>intro _<;>try(exfalso;first|omega|contradiction))|((with_reducible refine g_idx ?_);((first|refine ix ?_|refine ixi ?_|(refine ixg ?_;intro _ _)|(refine ixgi ?_;intro _ _));first|rintro _ _ _ _ _ ⟨rfl,rfl⟩ _|rintro _ _ _ _ _ ⟨_,rfl,_⟩ _|rintro _ _ _ _ _ ⟨_,_,_,_,rfl,rfl,_,_⟩ _|intro _ _ _ _ _ _ _))|(refine sx ?_;intro _ _)|((with_reducible refine g_awp ?_);simp only [g0,g1,g2]))
  refine aw_upto w.near.length (fun i vs h1 => ∃ u G, vs = [u, .int .i64 (i : Int)] ∧ i ≤ w.near.length ∧ Ext (h.push ⟨w.cs v0 v1 v2, 0, 0⟩) h1 ∧ SlRep h1 u (w.near.take i).flatten G ∧ Own (h.n + 1) h1 G) ⟨.nils, [], rfl, Nat.zero_le _, ext_auto, SlRep.nils, Own.nil⟩ ?_
  rintro i vs h1 _ ⟨u, G, rfl, hi, e1, ru, ou⟩
  have n1 := e1.1
  simp only [push_n] at n1
  simp only [g0, g1]
  have hb := flat_b (w.near.take i)
  have hle := szs_take_le w.near i
  refine br (fun hlt => ?_) (fun hge => ?_)
  · obtain ⟨x, hx, -, htk⟩ := drop_step (show i < w.near.length by omega)
    have hm := szs_mem (List.mem_of_getElem? hx)
    have hx2 : Sz.sz x = x.length + szs x := rfl
    refine vs ?_
    refine aw_idx r0 hx rfl ?_
    rintro b o _ Fi a ⟨vx, rfl, rx⟩ _
    (repeat' first|refine vs ?_|(refine br ?_ ?_<;>intro _<;>try(exfalso;first|omega|contradiction))|((with_reducible refine g_idx ?_);((first|refine ix ?_|refine ixi ?_|(refine ixg ?_;intro _ _)|(refine ixgi ?_;intro _ _));first|rintro _ _ _ _ _ ⟨rfl,rfl⟩ _|rintro _ _ _ _ _ ⟨_,rfl,_⟩ _|rintro _ _ _ _ _ ⟨_,_,_,_,rfl,rfl,_,_⟩ _|intro _ _ _ _ _ _ _))|(refine sx ?_;intro _ _)|((with_reducible refine g_awp ?_);simp only [g0,g1,g2]))
    refine app2F (n := h.n + 1) (xs := (w.near.take i).flatten) (ys := x) (Fx := G) slr_auto (slr_auto : SlRep _ vx x Fi) ol_auto om_auto rfl ?_ ?_ ?_
    · omega
    · omega
    intro u' h' F' ek kp r' o'
    (repeat' first|refine vs ?_|(refine br ?_ ?_<;>intro _<;>try(exfalso;first|omega|contradiction))|((with_reducible refine g_idx ?_);((first|refine ix ?_|refine ixi ?_|(refine ixg ?_;intro _ _)|(refine ixgi ?_;intro _ _));first|rintro _ _ _ _ _ ⟨rfl,rfl⟩ _|rintro _ _ _ _ _ ⟨_,rfl,_⟩ _|rintro _ _ _ _ _ ⟨_,_,_,_,rfl,rfl,_,_⟩ _|intro _ _ _ _ _ _ _))|(refine sx ?_;intro _ _)|((with_reducible refine g_awp ?_);simp only [g0,g1,g2]))
    exact ⟨by omega, u', F', rfl, by omega, ek _ e1 (by simp only [push_n]; omega), by rw [flat_s htk]; exact r', o'⟩
  · have e : i = w.near.length := by omega
    rw [e, List.take_length] at ru
    clear hb hle
    (repeat' first|refine vs ?_|(refine br ?_ ?_<;>intro _<;>try(exfalso;first|omega|contradiction))|((with_reducible refine g_idx ?_);((first|refine ix ?_|refine ixi ?_|(refine ixg ?_;intro _ _)|(refine ixgi ?_;intro _ _));first|rintro _ _ _ _ _ ⟨rfl,rfl⟩ _|rintro _ _ _ _ _ ⟨_,rfl,_⟩ _|rintro _ _ _ _ _ ⟨_,_,_,_,rfl,rfl,_,_⟩ _|intro _ _ _ _ _ _ _))|(refine sx ?_;intro _ _)|((with_reducible refine g_awp ?_);simp only [g0,g1,g2]))
    refine aw_upto w.far.length (fun i vs h1 => ∃ u G, vs = [u, .int .i64 (i : Int)] ∧ i ≤ w.far.length ∧ Ext (h.push ⟨w.cs v0 v1 v2, 0, 0⟩) h1 ∧ SlRep h1 u (w.near.flatten ++ (w.far.take i).flatten) G ∧ Own (h.n + 1) h1 G) ⟨u, G, rfl, Nat.zero_le _, e1, by simpa using ru, ou⟩ ?_
    clear ru ou e1 n1
    rintro i vs h1 _ ⟨u, G, rfl, hi, e1, ru, ou⟩
    have n1 := e1.1
    simp only [push_n] at n1
    simp only [g0, g1]
    have hb := flat_b (w.far.take i)
    have hle := szs_take_le w.far i
    refine br (fun hlt => ?_) (fun hge => ?_)
    · obtain ⟨x, hx, -, htk⟩ := drop_step (show i < w.far.length by omega)
      have hm := szs_mem (List.mem_of_getElem? hx)
      have hx2 : Sz.sz x = x.length + szs x := rfl
      refine vs ?_
      refine aw_idx r1 hx rfl ?_
      rintro b o _ Fi a ⟨vx, rfl, rx⟩ _
      (repeat' first|refine vs ?_|(refine br ?_ ?_<;>intro _<;>try(exfalso;first|omega|contradiction))|((with_reducible refine g_idx ?_);((first|refine ix ?_|refine ixi ?_|(refine ixg ?_;intro _ _)|(refine ixgi ?_;intro _ _));first|rintro _ _ _ _ _ ⟨rfl,rfl⟩ _|rintro _ _ _ _ _ ⟨_,rfl,_⟩ _|rintro _ _ _ _ _ ⟨_,_,_,_,rfl,rfl,_,_⟩ _|intro _ _ _ _ _ _ _))|(refine sx ?_;intro _ _)|((with_reducible refine g_awp ?_);simp only [g0,g1,g2]))
      refine app2F (n := h.n + 1) (xs := w.near.flatten ++ (w.far.take i).flatten) (ys := x) (Fx := G) slr_auto (slr_auto : SlRep _ vx x Fi) ol_auto om_auto rfl ?_ ?_ ?_
      · rw [List.length_append]; omega
      · rw [List.length_append]; omega
      intro u' h' F' ek kp r' o'
      (repeat' first|refine vs ?_|(refine br ?_ ?_<;>intro _<;>try(exfalso;first|omega|contradiction))|((with_reducible refine g_idx ?_);((first|refine ix ?_|refine ixi ?_|(refine ixg ?_;intro _ _)|(refine ixgi ?_;intro _ _));first|rintro _ _ _ _ _ ⟨rfl,rfl⟩ _|rintro _ _ _ _ _ ⟨_,rfl,_⟩ _|rintro _ _ _ _ _ ⟨_,_,_,_,rfl,rfl,_,_⟩ _|intro _ _ _ _ _ _ _))|(refine sx ?_;intro _ _)|((with_reducible refine g_awp ?_);simp only [g0,g1,g2]))
      exact ⟨by omega, u', F', rfl, by omega, ek _ e1 (by simp only [push_n]; omega), by rw [flat_s htk, ← List.append_assoc]; exact r', o'⟩
    · have e : i = w.far.length := by omega
      rw [e, List.take_length] at ru
      (repeat' first|refine vs ?_|(refine br ?_ ?_<;>intro _<;>try(exfalso;first|omega|contradiction))|((with_reducible refine g_idx ?_);((first|refine ix ?_|refine ixi ?_|(refine ixg ?_;intro _ _)|(refine ixgi ?_;intro _ _));first|rintro _ _ _ _ _ ⟨rfl,rfl⟩ _|rintro _ _ _ _ _ ⟨_,rfl,_⟩ _|rintro _ _ _ _ _ ⟨_,_,_,_,rfl,rfl,_,_⟩ _|intro _ _ _ _ _ _ _))|(refine sx ?_;intro _ _)|((with_reducible refine g_awp ?_);simp only [g0,g1,g2]))
      refine app2F (n := h.n + 1) (xs := w.near.flatten ++ w.far.flatten) (ys := w.rest) (Fx := G) slr_auto (slr_auto : SlRep _ v2 w.rest F2) ol_auto om_auto rfl ?_ ?_ ?_
      · rw [List.length_append]; omega
      · rw [List.length_append]; omega
      intro u' h' F' ek kp r' o'
      (repeat' first|refine vs ?_|(refine br ?_ ?_<;>intro _<;>try(exfalso;first|omega|contradiction))|((with_reducible refine g_idx ?_);((first|refine ix ?_|refine ixi ?_|(refine ixg ?_;intro _ _)|(refine ixgi ?_;intro _ _));first|rintro _ _ _ _ _ ⟨rfl,rfl⟩ _|rintro _ _ _ _ _ ⟨_,rfl,_⟩ _|rintro _ _ _ _ _ ⟨_,_,_,_,rfl,rfl,_,_⟩ _|intro _ _ _ _ _ _ _))|(refine sx ?_;intro _ _)|((with_reducible refine g_awp ?_);simp only [g0,g1,g2]))
      exact ⟨rfl, _, rfl, ek _ ext_auto (by omega), _, r', o'.mono (by omega) fun _ _ => rfl⟩
theorem s_spec_Timers {h : AH} {w : Wheel} {v0 v1 v2 : AV} {F0 F1 F2 : List Nat} (hs : Sz.sz w ≤ 67108864) (r0 : SlRep h v0 w.near F0) (r1 : SlRep h v1 w.far F1) (r2 : SlRep h v2 w.rest F2) : ACalls Tryz.prog n_spec_Timers [.agg (w.cs v0 v1 v2)] h (NewS Ab.Timer h (timers w)) := by
  have hsz : Sz.sz w = (w.near.length + szs w.near) + (w.far.length + szs w.far) + (w.rest.length + szs w.rest) := rfl
  refine c_spec_Timers _ ?_
  unfold p_spec_Timers
  have hb0 := flat_b w.near
  have hb1 := flat_b w.far
  have hl0 := r0.small
  have hl1 := r1.small
  refine vs ?_
  obtain ⟨re, oe⟩ := empty_own (h := h.push ⟨w.cs v0 v1 v2, 0, 0⟩) (α := Ab.Timer) (w := 3) rfl
  refine aw_upto w.near.length (fun i vs h1 => ∃ u G, vs = [u, .int .i64 (i : Int)] ∧ i ≤ w.near.length ∧ Ext (h.push ⟨w.cs v0 v1 v2, 0, 0⟩) h1 ∧ SlRep h1 u (w.near.take i).flatten G ∧ Own (h.n + 1) h1 G) ⟨_, _, rfl, Nat.zero_le _, ext_auto, re, oe _ (Nat.le_refl _)⟩ ?_
  rintro i vs h1 _ ⟨u, G, rfl, hi, e1, ru, ou⟩
  have n1 := e1.1
  simp only [push_n] at n1
  simp only [g0, g1]
  have hb := flat_b (w.near.take i)
  have hle := szs_take_le w.near i
  refine vs ?_
  refine br (fun hlt => ?_) (fun hge => ?_)
  · obtain ⟨x, hx, -, htk⟩ := drop_step (show i < w.near.length by omega)
    have hm := szs_mem (List.mem_of_getElem? hx)
    have hx2 : Sz.sz x = x.length + szs x := rfl
    refine vs ?_
    refine aw_idx r0 hx rfl ?_
    rintro b o _ Fi a ⟨vx, rfl, rx⟩ _
    (repeat' first|refine vs ?_|(refine br ?_ ?_<;>intro _<;>try(exfalso;first|omega|contradiction))|((with_reducible refine g_idx ?_);((first|refine ix ?_|refine ixi ?_|(refine ixg ?_;intro _ _)|(refine ixgi ?_;intro _ _));first|rintro _ _ _ _ _ ⟨rfl,rfl⟩ _|rintro _ _ _ _ _ ⟨_,rfl,_⟩ _|rintro _ _ _ _ _ ⟨_,_,_,_,rfl,rfl,_,_⟩ _|intro _ _ _ _ _ _ _))|(refine sx ?_;intro _ _)|((with_reducible refine g_awp ?_);simp only [g0,g1,g2]))
    refine app2F (n := h.n + 1) (xs := (w.near.take i).flatten) (ys := x) (Fx := G) slr_auto (slr_auto : SlRep _ vx x Fi) ol_auto om_auto rfl ?_ ?_ ?_
    · omega
    · omega
    intro u' h' F' ek kp r' o'
    (repeat' first|refine vs ?_|(refine br ?_ ?_<;>intro _<;>try(exfalso;first|omega|contradiction))|((with_reducible refine g_idx ?_);((first|refine ix ?_|refine ixi ?_|(refine ixg ?_;intro _ _)|(refine ixgi ?_;intro _ _));first|rintro _ _ _ _ _ ⟨rfl,rfl⟩ _|rintro _ _ _ _ _ ⟨_,rfl,_⟩ _|rintro _ _ _ _ _ ⟨_,_,_,_,rfl,rfl,_,_⟩ _|intro _ _ _ _ _ _ _))|(refine sx ?_;intro _ _)|((with_reducible refine g_awp ?_);simp only [g0,g1,g2]))
    exact ⟨by omega, u', F', rfl, by omega, ek _ e1 (by simp only [push_n]; omega), by rw [flat_s htk]; exact r', o'⟩
  · have e : i = w.near.length := by omega
    rw [e, List.take_length] at ru
    clear hb hle
    (repeat' first|refine vs ?_|(refine br ?_ ?_<;>intro _<;>try(exfalso;first|omega|contradiction))|((with_reducible refine g_idx ?_);((first|refine ix ?_|refine ixi ?_|(refine ixg ?_;intro _ _)|(refine ixgi ?_;intro _ _));first|rintro _ _ _ _ _ ⟨rfl,rfl⟩ _|rintro _ _ _ _ _ ⟨_,rfl,_⟩ _|rintro _ _ _ _ _ ⟨_,_,_,_,rfl,rfl,_,_⟩ _|intro _ _ _ _ _ _ _))|(refine sx ?_;intro _ _)|((with_reducible refine g_awp ?_);simp only [g0,g1,g2]))
    refine aw_upto w.far.length (fun i vs h1 => ∃ u G, vs = [u, .int .i64 (i : Int)] ∧ i ≤ w.far.length ∧ Ext (h.push ⟨w.cs v0 v1 v2, 0, 0⟩) h1 ∧ SlRep h1 u (w.near.flatten ++ (w.far.take i).flatten) G ∧ Own (h.n + 1) h1 G) ⟨u, G, rfl, Nat.zero_le _, e1, by simpa using ru, ou⟩ ?_
    clear ru ou e1 n1
    rintro i vs h1 _ ⟨u, G, rfl, hi, e1, ru, ou⟩
    have n1 := e1.1
    simp only [push_n] at n1
    simp only [g0, g1]
    have hb := flat_b (w.far.take i)
    have hle := szs_take_le w.far i
    refine vs ?_
    refine br (fun hlt => ?_) (fun hge => ?_)
    · obtain ⟨x, hx, -, htk⟩ := drop_step (show i < w.far.length by omega)
      have hm := szs_mem (List.mem_of_getElem? hx)
      have hx2 : Sz.sz x = x.length + szs x := rfl
      refine vs ?_
      refine aw_idx r1 hx rfl ?_
      rintro b o _ Fi a ⟨vx, rfl, rx⟩ _
      (repeat' first|refine vs ?_|(refine br ?_ ?_<;>intro _<;>try(exfalso;first|omega|contradiction))|((with_reducible refine g_idx ?_);((first|refine ix ?_|refine ixi ?_|(refine ixg ?_;intro _ _)|(refine ixgi ?_;intro _ _));first|rintro _ _ _ _ _ ⟨rfl,rfl⟩ _|rintro _ _ _ _ _ ⟨_,rfl,_⟩ _|rintro _ _ _ _ _ ⟨_,_,_,_,rfl,rfl,_,_⟩ _|intro _ _ _ _ _ _ _))|(refine sx ?_;intro _ _)|((with_reducible refine g_awp ?_);simp only [g0,g1,g2]))
      refine app2F (n := h.n + 1) (xs := w.near.flatten ++ (w.far.take i).flatten) (ys := x) (Fx := G) slr_auto (slr_auto : SlRep _ vx x Fi) ol_auto om_auto rfl ?_ ?_ ?_
      · rw [List.length_append]; omega
      · rw [List.length_append]; omega
      intro u' h' F' ek kp r' o'
      (repeat' first|refine vs ?_|(refine br ?_ ?_<;>intro _<;>try(exfalso;first|omega|contradiction))|((with_reducible refine g_idx ?_);((first|refine ix ?_|refine ixi ?_|(refine ixg ?_;intro _ _)|(refine ixgi ?_;intro _ _));first|rintro _ _ _ _ _ ⟨rfl,rfl⟩ _|rintro _ _ _ _ _ ⟨_,rfl,_⟩ _|rintro _ _ _ _ _ ⟨_,_,_,_,rfl,rfl,_,_⟩ _|intro _ _ _ _ _ _ _))|(refine sx ?_;intro _ _)|((with_reducible refine g_awp ?_);simp only [g0,g1,g2]))
      exact ⟨by omega, u', F', rfl, by omega, ek _ e1 (by simp only [push_n]; omega), by rw [flat_s htk, ← List.append_assoc]; exact r', o'⟩
    · have e : i = w.far.length := by omega
      rw [e, List.take_length] at ru
      (repeat' first|refine vs ?_|(refine br ?_ ?_<;>intro _<;>try(exfalso;first|omega|contradiction))|((with_reducible refine g_idx ?_);((first|refine ix ?_|refine ixi ?_|(refine ixg ?_;intro _ _)|(refine ixgi ?_;intro _ _));first|rintro _ _ _ _ _ ⟨rfl,rfl⟩ _|rintro _ _ _ _ _ ⟨_,rfl,_⟩ _|rintro _ _ _ _ _ ⟨_,_,_,_,rfl,rfl,_,_⟩ _|intro _ _ _ _ _ _ _))|(refine sx ?_;intro _ _)|((with_reducible refine g_awp ?_);simp only [g0,g1,g2]))
      refine app2F (n := h.n + 1) (xs := w.near.flatten ++ w.far.flatten) (ys := w.rest) (Fx := G) slr_auto (slr_auto : SlRep _ v2 w.rest F2) ol_auto om_auto rfl ?_ ?_ ?_
      · rw [List.length_append]; omega
      · rw [List.length_append]; omega
      intro u' h' F' ek kp r' o'
      (repeat' first|refine vs ?_|(refine br ?_ ?_<;>intro _<;>try(exfalso;first|omega|contradiction))|((with_reducible refine g_idx ?_);((first|refine ix ?_|refine ixi ?_|(refine ixg ?_;intro _ _)|(refine ixgi ?_;intro _ _));first|rintro _ _ _ _ _ ⟨rfl,rfl⟩ _|rintro _ _ _ _ _ ⟨_,rfl,_⟩ _|rintro _ _ _ _ _ ⟨_,_,_,_,rfl,rfl,_,_⟩ _|intro _ _ _ _ _ _ _))|(refine sx ?_;intro _ _)|((with_reducible refine g_awp ?_);simp only [g0,g1,g2]))
      exact ⟨rfl, _, rfl, ek _ ext_auto (by omega), _, r', o'.mono (by omega) fun _ _ => rfl⟩

/-! ### Where a timer belongs -/
def slotP (now kind slot : Int) (t : Ab.Timer) : Prop := 1 ≤ t.id ∧ (1 ≤ t.trace ∧ t.trace ≤ 999) ∧ now < t.at_ ∧ t.at_ ≤ 2147483647 ∧
  ((kind = 0 ∧ t.at_ / 8 = now / 8 ∧ t.at_ % 8 = slot) ∨ (kind = 1 ∧ 1 ≤ t.at_ / 8 - now / 8 ∧ t.at_ / 8 - now / 8 ≤ 7 ∧ t.at_ / 8 % 8 = slot) ∨ (kind = 2 ∧ 8 ≤ t.at_ / 8 - now / 8))
theorem tm8 {a : Int} (h : 0 ≤ a) : a.tmod 8 = a % 8 := Int.tmod_eq_emod_of_nonneg h
theorem s_impl_belongs {h : AH} {w : Wheel} {l : List Ab.Timer} {v v0 v1 v2 : AV} {F : List Nat} {kind slot : Int} (h0 : 0 ≤ w.now) (h1 : w.now ≤ 2147483647) (hk : kind = 0 ∨ kind = 1 ∨ kind = 2) (r : SlRep h v l F) : RCalls Tryz.prog n_impl_belongs [.agg (w.cs v0 v1 v2), v, .int .i64 kind, .int .i64 slot] h (.bool (bp (∀ t ∈ l, slotP w.now kind slot t))) := by
  refine reader (c_impl_belongs _ _ _ _) (by simp only [old]) ?_
  unfold p_impl_belongs
  have hsm := r.small
  (repeat' first|refine vs ?_|(refine br ?_ ?_<;>intro _<;>try(exfalso;first|omega|contradiction))|((with_reducible refine g_idx ?_);((first|refine ix ?_|refine ixi ?_|(refine ixg ?_;intro _ _)|(refine ixgi ?_;intro _ _));first|rintro _ _ _ _ _ ⟨rfl,rfl⟩ _|rintro _ _ _ _ _ ⟨_,rfl,_⟩ _|rintro _ _ _ _ _ ⟨_,_,_,_,rfl,rfl,_,_⟩ _|intro _ _ _ _ _ _ _))|(refine sx ?_;intro _ _)|((with_reducible refine g_awp ?_);simp only [g0,g1,g2]))
  refine aw_upto l.length (fun i vs h1 => ∃ z, vs = [z, .int .i64 (i : Int)] ∧ i ≤ l.length ∧ Ext (h.push ⟨w.cs v0 v1 v2, 0, 0⟩) h1 ∧ Upto l (fun _ t => slotP w.now kind slot t) i) ⟨_, rfl, Nat.zero_le _, ext_auto, up0⟩ ?_
  rintro i vs h2 _ ⟨z, rfl, hi, e1, hu⟩
  simp only [g0, g1]
  refine br (fun hlt => ?_) (fun hge => ?_)
  · obtain ⟨x, hx, -, -⟩ := drop_step (show i < l.length by omega)
    (repeat' first|refine vs ?_|(refine br ?_ ?_<;>intro _<;>try(exfalso;first|omega|contradiction))|((with_reducible refine g_callf n_impl_within ?_);(refine aw_rcall_b s_impl_within ?_ ?_ <;> intro hb <;> (first | replace hb := inB_t hb | replace hb := inB_f hb)))|((with_reducible refine g_idx ?_);((first|refine ix ?_|refine ixi ?_|(refine ixg ?_;intro _ _)|(refine ixgi ?_;intro _ _));first|rintro _ _ _ _ _ ⟨rfl,rfl⟩ _|rintro _ _ _ _ _ ⟨_,rfl,_⟩ _|rintro _ _ _ _ _ ⟨_,_,_,_,rfl,rfl,_,_⟩ _|intro _ _ _ _ _ _ _))|(refine sx ?_;intro _ _)|((with_reducible refine g_awp ?_);simp only [g0,g1,g2]))
    all_goals (have t1 := tm8 (a := x.at_) ; have t2 := tm8 (a := x.at_ / 8))
    all_goals first
      | exact pf fun k => upNot hx (by unfold slotP; omega) k
      | exact ⟨by omega, _, rfl, by omega, ext_auto, upS hu hx (by unfold slotP; omega)⟩
  · (repeat' first|refine vs ?_|(refine br ?_ ?_<;>intro _<;>try(exfalso;first|omega|contradiction))|((with_reducible refine g_idx ?_);((first|refine ix ?_|refine ixi ?_|(refine ixg ?_;intro _ _)|(refine ixgi ?_;intro _ _));first|rintro _ _ _ _ _ ⟨rfl,rfl⟩ _|rintro _ _ _ _ _ ⟨_,rfl,_⟩ _|rintro _ _ _ _ _ ⟨_,_,_,_,rfl,rfl,_,_⟩ _|intro _ _ _ _ _ _ _))|(refine sx ?_;intro _ _)|((with_reducible refine g_awp ?_);simp only [g0,g1,g2]))
    rw [show i = l.length by omega] at hu
    exact pt (upAll hu)
theorem s_spec_l8Place {h : AH} {now at_ : Int} : 0 ≤ now → now ≤ 2147483647 → 0 ≤ at_ → at_ ≤ 2147483647 → RCalls Tryz.prog n_spec_l8Place [.int .i64 now, .int .i64 at_] h (.tup [.int .i64 (if at_ / 8 = now / 8 then 1 else if at_ / 8 - now / 8 < 8 then 2 else 3), .int .i64 (if at_ / 8 = now / 8 then at_ % 8 else if at_ / 8 - now / 8 < 8 then at_ / 8 % 8 else 0)]) := by
  intro h0 h1 h2 h3
  refine reader (c_spec_l8Place _ _) (by simp [old, olds]) ?_
  unfold p_spec_l8Place
  have t1 := tm8 (a := at_) h2
  have t2 := tm8 (a := at_ / 8) (by omega)
  (repeat' first|refine vs ?_|(refine br ?_ ?_<;>intro _<;>try(exfalso;first|omega|contradiction))|((with_reducible refine g_idx ?_);((first|refine ix ?_|refine ixi ?_|(refine ixg ?_;intro _ _)|(refine ixgi ?_;intro _ _));first|rintro _ _ _ _ _ ⟨rfl,rfl⟩ _|rintro _ _ _ _ _ ⟨_,rfl,_⟩ _|rintro _ _ _ _ _ ⟨_,_,_,_,rfl,rfl,_,_⟩ _|intro _ _ _ _ _ _ _))|(refine sx ?_;intro _ _)|((with_reducible refine g_awp ?_);simp only [g0,g1,g2]))
  all_goals (refine ⟨rfl, ?_, Ext.refl _⟩; first | (simp_all; done) | (simp_all; omega))
theorem s_spec_l8Slot {h : AH} {w : Wheel} {l : List Ab.Timer} {v v0 v1 v2 : AV} {F : List Nat} {kind slot k1 : Int} (h0 : 0 ≤ w.now) (h1 : w.now ≤ 2147483647) (hk : kind = 0 ∨ kind = 1 ∨ kind = 2 ∧ slot = 0) (hk1 : k1 = kind + 1) (r : SlRep h v l F) : RCalls Tryz.prog n_spec_l8Slot [.agg (w.cs v0 v1 v2), v, .int .i64 k1, .int .i64 slot] h (.bool (bp (∀ t ∈ l, slotP w.now kind slot t))) := by
  subst hk1
  refine reader (c_spec_l8Slot _ _ _ _) (by simp only [old]) ?_
  unfold p_spec_l8Slot
  have hsm := r.small
  (repeat' first|refine vs ?_|(refine br ?_ ?_<;>intro _<;>try(exfalso;first|omega|contradiction))|((with_reducible refine g_idx ?_);((first|refine ix ?_|refine ixi ?_|(refine ixg ?_;intro _ _)|(refine ixgi ?_;intro _ _));first|rintro _ _ _ _ _ ⟨rfl,rfl⟩ _|rintro _ _ _ _ _ ⟨_,rfl,_⟩ _|rintro _ _ _ _ _ ⟨_,_,_,_,rfl,rfl,_,_⟩ _|intro _ _ _ _ _ _ _))|(refine sx ?_;intro _ _)|((with_reducible refine g_awp ?_);simp only [g0,g1,g2]))
  refine aw_upto l.length (fun i vs h1 => vs = [.int .i64 (i : Int)] ∧ i ≤ l.length ∧ Ext (h.push ⟨w.cs v0 v1 v2, 0, 0⟩) h1 ∧ Upto l (fun _ t => slotP w.now kind slot t) i) ⟨rfl, Nat.zero_le _, ext_auto, up0⟩ ?_
  rintro i vs h2 _ ⟨rfl, hi, e1, hu⟩
  simp only [g0]
  refine vs ?_
  refine br (fun hlt => ?_) (fun hge => ?_)
  · obtain ⟨x, hx, -, -⟩ := drop_step (show i < l.length by omega)
    (repeat' first|refine vs ?_|(refine br ?_ ?_<;>intro _<;>try(exfalso;first|omega|contradiction))|((with_reducible refine g_callf n_spec_l1In ?_);(refine aw_rcall_b s_spec_l1In ?_ ?_ <;> intro hb <;> (first | replace hb := inB_t hb | replace hb := inB_f hb)))|((with_reducible refine g_callf n_spec_l8Place ?_);(refine aw_rcall (s_spec_l8Place (by omega) (by omega) (by omega) (by omega)) ?_))|((with_reducible refine g_idx ?_);((first|refine ix ?_|refine ixi ?_|(refine ixg ?_;intro _ _)|(refine ixgi ?_;intro _ _));first|rintro _ _ _ _ _ ⟨rfl,rfl⟩ _|rintro _ _ _ _ _ ⟨_,rfl,_⟩ _|rintro _ _ _ _ _ ⟨_,_,_,_,rfl,rfl,_,_⟩ _|intro _ _ _ _ _ _ _))|(refine sx ?_;intro _ _)|((with_reducible refine g_awp ?_);simp only [g0,g1,g2]))
    all_goals first
      | exact pf fun k => upNot hx (by unfold slotP; omega) k
      | exact ⟨by omega, rfl, by omega, ext_auto, upS hu hx (by unfold slotP; omega)⟩
  · (repeat' first|refine vs ?_|(refine br ?_ ?_<;>intro _<;>try(exfalso;first|omega|contradiction))|((with_reducible refine g_idx ?_);((first|refine ix ?_|refine ixi ?_|(refine ixg ?_;intro _ _)|(refine ixgi ?_;intro _ _));first|rintro _ _ _ _ _ ⟨rfl,rfl⟩ _|rintro _ _ _ _ _ ⟨_,rfl,_⟩ _|rintro _ _ _ _ _ ⟨_,_,_,_,rfl,rfl,_,_⟩ _|intro _ _ _ _ _ _ _))|(refine sx ?_;intro _ _)|((with_reducible refine g_awp ?_);simp only [g0,g1,g2]))
    rw [show i = l.length by omega] at hu
    exact pt (upAll hu)

/-! ### Which wheels may be -/
def isTid (k : Int) (t : Ab.Timer) : Bool := decide (t.id = k)
theorem s_timerAt_1 {h : AH} {b : Nat} {k : Int} (a : At h b 0 [.int .i64 k]) : Looks Ab.Timer Tryz.prog h n_impl_timerAt_1 [.ptr b 0] (isTid k) := by
  rintro x cs F ⟨rfl, rfl⟩
  refine reader (c_impl_timerAt_1 _ _) (by simp only [old]) ?_
  unfold p_impl_timerAt_1
  (repeat' first|refine vs ?_|(refine br ?_ ?_<;>intro _<;>try(exfalso;first|omega|contradiction))|((with_reducible refine g_idx ?_);((first|refine ix ?_|refine ixi ?_|(refine ixg ?_;intro _ _)|(refine ixgi ?_;intro _ _));first|rintro _ _ _ _ _ ⟨rfl,rfl⟩ _|rintro _ _ _ _ _ ⟨_,rfl,_⟩ _|rintro _ _ _ _ _ ⟨_,_,_,_,rfl,rfl,_,_⟩ _|intro _ _ _ _ _ _ _))|(refine sx ?_;intro _ _)|((with_reducible refine g_awp ?_);simp only [g0,g1,g2]))
  all_goals (refine pb ?_; simp [isTid, *])
theorem s_slices_IndexFunc_Timer {h : AH} {xs : List Ab.Timer} {x0 : AV} {F : List Nat} {f : FuncId} {caps : List AV} {p : Ab.Timer → Bool} (r : SlRep h x0 xs F) (hf : Looks Ab.Timer Tryz.prog h f caps p) :
    RCalls Tryz.prog n_slices_IndexFunc_Timer [x0, .fn f caps] h (.int .i64 (idx p xs)) :=
  reader (c_slices_IndexFunc_Timer _ _) (by simp only [old]) (idxF_spec (w := 3) rfl r hf)
theorem s_impl_timerAt {h : AH} {xs : List Ab.Timer} {x0 : AV} {F : List Nat} {k : Int} (r : SlRep h x0 xs F) : RCalls Tryz.prog n_impl_timerAt [x0, .int .i64 k] h (.int .i64 (idx (isTid k) xs)) := by
  refine reader (c_impl_timerAt _ _) (by simp only [old]) ?_
  unfold p_impl_timerAt
  (repeat' first|refine vs ?_|(refine br ?_ ?_<;>intro _<;>try(exfalso;first|omega|contradiction))|((with_reducible refine g_callf n_slices_IndexFunc_Timer ?_);refine aw_rcall (s_slices_IndexFunc_Timer slr_auto (s_timerAt_1 at_push)) ?_)|((with_reducible refine g_idx ?_);((first|refine ix ?_|refine ixi ?_|(refine ixg ?_;intro _ _)|(refine ixgi ?_;intro _ _));first|rintro _ _ _ _ _ ⟨rfl,rfl⟩ _|rintro _ _ _ _ _ ⟨_,rfl,_⟩ _|rintro _ _ _ _ _ ⟨_,_,_,_,rfl,rfl,_,_⟩ _|intro _ _ _ _ _ _ _))|(refine sx ?_;intro _ _)|((with_reducible refine g_awp ?_);simp only [g0,g1,g2]))
  exact pi rfl
/-- No two of a list are told by the same number. -/
def firstOf {α : Type} (f : α → Int) (l : List α) : Prop := ∀ (i : Nat) (x : α), l[i]? = some x → ∀ (j : Nat) (y : α), j < i → l[j]? = some y → f y ≠ f x
theorem idx_first {α : Type} {p : α → Bool} {l : List α} {i : Nat} {x : α} (hx : l[i]? = some x) (hp : p x = true) : idx p l = i ↔ ∀ (j : Nat) (y : α), j < i → l[j]? = some y → p y = false := by
  constructor
  · intro h j y hj hy
    rcases idx_cases p l with ⟨e, -⟩ | ⟨k, z, e, hz, hpz, hf⟩
    · omega
    · have : k = i := by omega
      subst this
      rw [List.filter_eq_self] at hf
      have hm : y ∈ l.take k := by
        rw [List.mem_iff_getElem?]
        exact ⟨j, by rw [List.getElem?_take, if_pos hj]; exact hy⟩
      simpa using hf y hm
  · exact fun h => idx_at hx hp h
def wheelOk (w : Wheel) : Prop := (0 ≤ w.now ∧ w.now ≤ 2147483647) ∧ (w.near.length : Int) = 8 ∧ (w.far.length : Int) = 8 ∧ (∀ t ∈ w.rest, slotP w.now 2 0 t) ∧
  (∀ (i : Nat) (a b : List Ab.Timer), w.near[i]? = some a → w.far[i]? = some b → (∀ t ∈ a, slotP w.now 0 i t) ∧ ∀ t ∈ b, slotP w.now 1 i t) ∧ firstOf (·.id) (timers w) ∧ ((timers w).length : Int) ≤ 16
theorem isTid_self (t : Ab.Timer) : isTid t.id t = true := by simp [isTid]
theorem s_impl_WheelOk {h : AH} {w : Wheel} {v0 v1 v2 : AV} {F0 F1 F2 : List Nat} (hs : Sz.sz w ≤ 67108864) (r0 : SlRep h v0 w.near F0) (r1 : SlRep h v1 w.far F1) (r2 : SlRep h v2 w.rest F2) : RCalls Tryz.prog n_impl_WheelOk [.agg (w.cs v0 v1 v2)] h (.bool (bp (wheelOk w))) := by
  refine reader (c_impl_WheelOk _) (by simp only [old]) ?_
  unfold p_impl_WheelOk
  (repeat' first|refine vs ?_|(refine br ?_ ?_<;>intro _<;>try(exfalso;first|omega|contradiction))|((with_reducible refine g_callf n_impl_within ?_);(refine aw_rcall_b s_impl_within ?_ ?_ <;> intro hb <;> (first | replace hb := inB_t hb | replace hb := inB_f hb)))|((with_reducible refine g_callf n_impl_belongs ?_);(refine aw_rcall_b (s_impl_belongs (w := w) (by omega) (by omega) (by omega) slr_auto) ?_ ?_ <;> intro hn <;> first | replace hn := bp_true hn | replace hn := bp_false hn))|((with_reducible refine g_idx ?_);((first|refine ix ?_|refine ixi ?_|(refine ixg ?_;intro _ _)|(refine ixgi ?_;intro _ _));first|rintro _ _ _ _ _ ⟨rfl,rfl⟩ _|rintro _ _ _ _ _ ⟨_,rfl,_⟩ _|rintro _ _ _ _ _ ⟨_,_,_,_,rfl,rfl,_,_⟩ _|intro _ _ _ _ _ _ _))|(refine sx ?_;intro _ _)|((with_reducible refine g_awp ?_);simp only [g0,g1,g2]))
  all_goals first
    | exact pf fun k => by obtain ⟨a1, a2, a3, a4, -⟩ := k; first | omega | contradiction
    | skip
  have hnow := hb
  have hrest := hn
  refine aw_upto 8 (fun i vs h1 => vs = [.int .i64 (i : Int)] ∧ i ≤ 8 ∧ Ext (h.push ⟨w.cs v0 v1 v2, 0, 0⟩) h1 ∧ ∀ (j : Nat) (a b : List Ab.Timer), j < i → w.near[j]? = some a → w.far[j]? = some b → (∀ t ∈ a, slotP w.now 0 j t) ∧ ∀ t ∈ b, slotP w.now 1 j t) ⟨rfl, Nat.zero_le _, ext_auto, fun j a b hj => by omega⟩ ?_
  rintro i vs h1 _ ⟨rfl, hi, e1, hu⟩
  simp only [g0]
  refine br (fun hlt => ?_) (fun hge => ?_)
  · obtain ⟨x, hx, -, -⟩ := drop_step (show i < w.near.length by omega)
    obtain ⟨y, hy, -, -⟩ := drop_step (show i < w.far.length by omega)
    (repeat' first|refine vs ?_|(refine br ?_ ?_<;>intro _<;>try(exfalso;first|omega|contradiction))|((with_reducible refine g_callf n_impl_belongs ?_);(refine aw_rcall_b (s_impl_belongs (w := w) (by omega) (by omega) (by omega) slr_auto) ?_ ?_ <;> intro hn <;> first | replace hn := bp_true hn | replace hn := bp_false hn))|((with_reducible refine g_idx ?_);((first|refine ix ?_|refine ixi ?_|(refine ixg ?_;intro _ _)|(refine ixgi ?_;intro _ _));first|rintro _ _ _ _ _ ⟨rfl,rfl⟩ _|rintro _ _ _ _ _ ⟨_,rfl,_⟩ _|rintro _ _ _ _ _ ⟨_,_,_,_,rfl,rfl,_,_⟩ _|intro _ _ _ _ _ _ _))|(refine sx ?_;intro _ _)|((with_reducible refine g_awp ?_);simp only [g0,g1,g2]))
    all_goals first
      | exact pf fun k => by have k := k.2.2.2.2.1 i x y hx hy; first | exact absurd k.1 (by assumption) | exact absurd k.2 (by assumption)
      | skip
    refine ⟨by omega, rfl, by omega, ext_auto, fun j a b hj ha hb => ?_⟩
    by_cases e : j = i
    · subst e; rw [hx] at ha; rw [hy] at hb; cases ha; cases hb
      exact ⟨by assumption, by assumption⟩
    · exact hu j a b (by omega) ha hb
  · (repeat' first|refine vs ?_|(refine br ?_ ?_<;>intro _<;>try(exfalso;first|omega|contradiction))|((with_reducible refine g_idx ?_);((first|refine ix ?_|refine ixi ?_|(refine ixg ?_;intro _ _)|(refine ixgi ?_;intro _ _));first|rintro _ _ _ _ _ ⟨rfl,rfl⟩ _|rintro _ _ _ _ _ ⟨_,rfl,_⟩ _|rintro _ _ _ _ _ ⟨_,_,_,_,rfl,rfl,_,_⟩ _|intro _ _ _ _ _ _ _))|(refine sx ?_;intro _ _)|((with_reducible refine g_awp ?_);simp only [g0,g1,g2]))
    refine aw_call (s_impl_Timers hs slr_auto slr_auto slr_auto) ?_
    rintro w1 h2 ⟨e2, G1, q1, o1⟩
    refine aw_len q1 ?_
    have hsm := q1.small
    refine aw_upto (timers w).length (fun i vs h3 => vs = [.int .i64 (i : Int)] ∧ i ≤ (timers w).length ∧ Ext h2 h3 ∧ Upto (timers w) (fun i x => ∀ (j : Nat) (y : Ab.Timer), j < i → (timers w)[j]? = some y → y.id ≠ x.id) i) ⟨rfl, Nat.zero_le _, Ext.refl _, up0⟩ ?_
    rintro k vs h3 _ ⟨rfl, hk, e3, hu3⟩
    simp only [g0]
    refine br (fun hlt => ?_) (fun hge3 => ?_)
    · obtain ⟨x, hx, -, -⟩ := drop_step (show k < (timers w).length by omega)
      have hf := idx_first hx (isTid_self x)
      refine vs ?_
      refine aw_idx q1 hx rfl ?_
      rintro b o _ Fi a ⟨rfl, rfl⟩ _
      (repeat' first|refine vs ?_|(refine br ?_ ?_<;>intro _<;>try(exfalso;first|omega|contradiction))|((with_reducible refine g_callf n_impl_timerAt ?_);refine aw_rcall (s_impl_timerAt slr_auto) ?_)|((with_reducible refine g_idx ?_);((first|refine ix ?_|refine ixi ?_|(refine ixg ?_;intro _ _)|(refine ixgi ?_;intro _ _));first|rintro _ _ _ _ _ ⟨rfl,rfl⟩ _|rintro _ _ _ _ _ ⟨_,rfl,_⟩ _|rintro _ _ _ _ _ ⟨_,_,_,_,rfl,rfl,_,_⟩ _|intro _ _ _ _ _ _ _))|(refine sx ?_;intro _ _)|((with_reducible refine g_awp ?_);simp only [g0,g1,g2]))
      · rename_i hne
        exact pf fun kk => hne (hf.2 fun j y hj hy => by have := kk.2.2.2.2.2.1 k x hx j y hj hy; simpa [isTid] using this)
      · rename_i heq
        exact ⟨by omega, rfl, by omega, ext_auto, upS hu3 hx fun j y hj hy => by have := hf.1 heq j y hj hy; simpa [isTid] using this⟩
    · rw [show k = (timers w).length by omega] at hu3
      have hu3 := upEnd hu3
      (repeat' first|refine vs ?_|(refine br ?_ ?_<;>intro _<;>try(exfalso;first|omega|contradiction))|((with_reducible refine g_idx ?_);((first|refine ix ?_|refine ixi ?_|(refine ixg ?_;intro _ _)|(refine ixgi ?_;intro _ _));first|rintro _ _ _ _ _ ⟨rfl,rfl⟩ _|rintro _ _ _ _ _ ⟨_,rfl,_⟩ _|rintro _ _ _ _ _ ⟨_,_,_,_,rfl,rfl,_,_⟩ _|intro _ _ _ _ _ _ _))|(refine sx ?_;intro _ _)|((with_reducible refine g_awp ?_);simp only [g0,g1,g2]))
      · exact pt ⟨hnow, by omega, by omega, hrest, fun i' a b ha hb => hu i' a b (by have := (List.getElem?_eq_some_iff.1 ha).1; omega) ha hb, hu3, by omega⟩
      · exact pf fun kk => by have := kk.2.2.2.2.2.2; omega
theorem s_spec_WheelOk {h : AH} {w : Wheel} {v0 v1 v2 : AV} {F0 F1 F2 : List Nat} (hs : Sz.sz w ≤ 67108864) (r0 : SlRep h v0 w.near F0) (r1 : SlRep h v1 w.far F1) (r2 : SlRep h v2 w.rest F2) : RCalls Tryz.prog n_spec_WheelOk [.agg (w.cs v0 v1 v2)] h (.bool (bp (wheelOk w))) := by
  refine reader (c_spec_WheelOk _) (by simp only [old]) ?_
  unfold p_spec_WheelOk
  (repeat' first|refine vs ?_|(refine br ?_ ?_<;>intro _<;>try(exfalso;first|omega|contradiction))|((with_reducible refine g_callf n_spec_l1In ?_);(refine aw_rcall_b s_spec_l1In ?_ ?_ <;> intro hb <;> (first | replace hb := inB_t hb | replace hb := inB_f hb)))|((with_reducible refine g_callf n_spec_l8Slot ?_);(refine aw_rcall_b (s_spec_l8Slot (w := w) (kind := 2) (by omega) (by omega) (by omega) (by rfl) slr_auto) ?_ ?_ <;> intro hn <;> first | replace hn := bp_true hn | replace hn := bp_false hn))|((with_reducible refine g_idx ?_);((first|refine ix ?_|refine ixi ?_|(refine ixg ?_;intro _ _)|(refine ixgi ?_;intro _ _));first|rintro _ _ _ _ _ ⟨rfl,rfl⟩ _|rintro _ _ _ _ _ ⟨_,rfl,_⟩ _|rintro _ _ _ _ _ ⟨_,_,_,_,rfl,rfl,_,_⟩ _|intro _ _ _ _ _ _ _))|(refine sx ?_;intro _ _)|((with_reducible refine g_awp ?_);simp only [g0,g1,g2]))
  all_goals first
    | exact pf fun k => by obtain ⟨a1, a2, a3, a4, -⟩ := k; first | omega | contradiction
    | skip
  have hnow := hb
  have hrest := hn
  refine aw_upto 8 (fun i vs h1 => vs = [.int .i64 (i : Int)] ∧ i ≤ 8 ∧ Ext (h.push ⟨w.cs v0 v1 v2, 0, 0⟩) h1 ∧ ∀ (j : Nat) (a b : List Ab.Timer), j < i → w.near[j]? = some a → w.far[j]? = some b → (∀ t ∈ a, slotP w.now 0 j t) ∧ ∀ t ∈ b, slotP w.now 1 j t) ⟨rfl, Nat.zero_le _, ext_auto, fun j a b hj => by omega⟩ ?_
  rintro i vs h1 _ ⟨rfl, hi, e1, hu⟩
  simp only [g0]
  refine br (fun hlt => ?_) (fun hge => ?_)
  · obtain ⟨x, hx, -, -⟩ := drop_step (show i < w.near.length by omega)
    obtain ⟨y, hy, -, -⟩ := drop_step (show i < w.far.length by omega)
    (repeat' first|refine vs ?_|(refine br ?_ ?_<;>intro _<;>try(exfalso;first|omega|contradiction))|((with_reducible refine g_callf n_spec_l8Slot ?_);((first | refine aw_rcall_b (s_spec_l8Slot (w := w) (kind := 0) (l := x) (by omega) (by omega) (by omega) (by rfl) slr_auto) ?_ ?_ | refine aw_rcall_b (s_spec_l8Slot (w := w) (kind := 1) (l := y) (by omega) (by omega) (by omega) (by rfl) slr_auto) ?_ ?_) <;> intro hn <;> first | replace hn := bp_true hn | replace hn := bp_false hn))|((with_reducible refine g_idx ?_);((first|refine ix ?_|refine ixi ?_|(refine ixg ?_;intro _ _)|(refine ixgi ?_;intro _ _));first|rintro _ _ _ _ _ ⟨rfl,rfl⟩ _|rintro _ _ _ _ _ ⟨_,rfl,_⟩ _|rintro _ _ _ _ _ ⟨_,_,_,_,rfl,rfl,_,_⟩ _|intro _ _ _ _ _ _ _))|(refine sx ?_;intro _ _)|((with_reducible refine g_awp ?_);simp only [g0,g1,g2]))
    all_goals first
      | exact pf fun k => by have k := k.2.2.2.2.1 i x y hx hy; first | exact absurd k.1 (by assumption) | exact absurd k.2 (by assumption)
      | skip
    refine ⟨by omega, rfl, by omega, ext_auto, fun j a b hj ha hb => ?_⟩
    by_cases e : j = i
    · subst e; rw [hx] at ha; rw [hy] at hb; cases ha; cases hb
      exact ⟨by assumption, by assumption⟩
    · exact hu j a b (by omega) ha hb
  · (repeat' first|refine vs ?_|(refine br ?_ ?_<;>intro _<;>try(exfalso;first|omega|contradiction))|((with_reducible refine g_idx ?_);((first|refine ix ?_|refine ixi ?_|(refine ixg ?_;intro _ _)|(refine ixgi ?_;intro _ _));first|rintro _ _ _ _ _ ⟨rfl,rfl⟩ _|rintro _ _ _ _ _ ⟨_,rfl,_⟩ _|rintro _ _ _ _ _ ⟨_,_,_,_,rfl,rfl,_,_⟩ _|intro _ _ _ _ _ _ _))|(refine sx ?_;intro _ _)|((with_reducible refine g_awp ?_);simp only [g0,g1,g2]))
    refine aw_call (s_spec_Timers hs slr_auto slr_auto slr_auto) ?_
    rintro w1 h2 ⟨e2, G1, q1, o1⟩
    have hsm := q1.small
    refine aw_upto (timers w).length (fun i vs h3 => ∃ z, vs = [.int .i64 (i : Int), z] ∧ i ≤ (timers w).length ∧ h3 = h2 ∧ Upto (timers w) (fun i x => ∀ (j : Nat) (y : Ab.Timer), j < i → (timers w)[j]? = some y → y.id ≠ x.id) i) ⟨_, rfl, Nat.zero_le _, rfl, up0⟩ ?_
    rintro k vs h3 _ ⟨z, rfl, hk, rfl, hu3⟩
    simp only [g0]
    refine aw_len q1 ?_
    refine br (fun hlt => ?_) (fun hge3 => ?_)
    · obtain ⟨x, hx, -, -⟩ := drop_step (show k < (timers w).length by omega)
      refine aw_ite_t ?_
      refine aw_upto k (fun j vs h4 => vs = [.int .i64 (j : Int)] ∧ j ≤ k ∧ h4 = h3 ∧ ∀ (m : Nat) (y : Ab.Timer), m < j → (timers w)[m]? = some y → y.id ≠ x.id) ⟨rfl, Nat.zero_le _, rfl, fun m y hm => by omega⟩ ?_
      rintro j vs h4 _ ⟨rfl, hj, rfl, hu4⟩
      simp only [g0]
      refine br (fun hlt4 => ?_) (fun hge4 => ?_)
      · obtain ⟨y, hy, -, -⟩ := drop_step (show j < (timers w).length by omega)
        (repeat' first|refine vs ?_|(refine br ?_ ?_<;>intro _<;>try(exfalso;first|omega|contradiction))|((with_reducible refine g_idx ?_);((first|refine ix ?_|refine ixi ?_|(refine ixg ?_;intro _ _)|(refine ixgi ?_;intro _ _));first|rintro _ _ _ _ _ ⟨rfl,rfl⟩ _|rintro _ _ _ _ _ ⟨_,rfl,_⟩ _|rintro _ _ _ _ _ ⟨_,_,_,_,rfl,rfl,_,_⟩ _|intro _ _ _ _ _ _ _))|(refine sx ?_;intro _ _)|((with_reducible refine g_awp ?_);simp only [g0,g1,g2]))
        · rename_i he
          exact pf fun kk => kk.2.2.2.2.2.1 k x hx j y (by omega) hy he
        · rename_i he
          refine ⟨by omega, rfl, by omega, rfl, fun m z hm hz => ?_⟩
          by_cases e : m = j
          · subst e; rw [hy] at hz; cases hz; exact he
          · exact hu4 m z (by omega) hz
      · have e : j = k := by omega
        subst e
        (repeat' first|refine vs ?_|(refine br ?_ ?_<;>intro _<;>try(exfalso;first|omega|contradiction))|((with_reducible refine g_idx ?_);((first|refine ix ?_|refine ixi ?_|(refine ixg ?_;intro _ _)|(refine ixgi ?_;intro _ _));first|rintro _ _ _ _ _ ⟨rfl,rfl⟩ _|rintro _ _ _ _ _ ⟨_,rfl,_⟩ _|rintro _ _ _ _ _ ⟨_,_,_,_,rfl,rfl,_,_⟩ _|intro _ _ _ _ _ _ _))|(refine sx ?_;intro _ _)|((with_reducible refine g_awp ?_);simp only [g0,g1,g2]))
        exact ⟨by omega, _, rfl, by omega, rfl, upS hu3 hx hu4⟩
    · rw [show k = (timers w).length by omega] at hu3
      have hu3 := upEnd hu3
      (repeat' first|refine vs ?_|(refine br ?_ ?_<;>intro _<;>try(exfalso;first|omega|contradiction))|((with_reducible refine g_idx ?_);((first|refine ix ?_|refine ixi ?_|(refine ixg ?_;intro _ _)|(refine ixgi ?_;intro _ _));first|rintro _ _ _ _ _ ⟨rfl,rfl⟩ _|rintro _ _ _ _ _ ⟨_,rfl,_⟩ _|rintro _ _ _ _ _ ⟨_,_,_,_,rfl,rfl,_,_⟩ _|intro _ _ _ _ _ _ _))|(refine sx ?_;intro _ _)|((with_reducible refine g_awp ?_);simp only [g0,g1,g2]))
      · exact pt ⟨hnow, by omega, by omega, hrest, fun i' a b ha hb => hu i' a b (by have := (List.getElem?_eq_some_iff.1 ha).1; omega) ha hb, hu3, by omega⟩
      · exact pf fun kk => by have := kk.2.2.2.2.2.2; omega
end Go.Proofs.YtideefohbkhhhaaGreat
