import Derived.Test.YtjnekdbdmoibgaaGreatCKW1
/- Rules that may be; set-ups that may be. -/
set_option linter.unusedSimpArgs false
set_option linter.unusedVariables false
set_option maxHeartbeats 1000000
namespace Go.Proofs.YtjnekdbdmoibgaaGreat
open Go Go.Ab
section
/- impl.polHeadOk -/
def p_impl_polHeadOk (x0 : AV) : Prog := .op (.box x0) fun v1 => .op (.fad 1 v1) fun v2 => .op (.ld1 v2) fun v3 => .op (.bin 0 .eql v3 (AV.int .i64 0)) fun v4 => .gop v4 true (.fad 2 v1) fun v5 => .gop v4 true (.ld1 v5) fun v6 => .gop v4 true (.bin 1 .eql v6 (AV.str ⟨#[]⟩)) fun v7 => .op (.pick v4 v7 (AV.bool false)) fun v8 => .gop v8 true (.fad 3 v1) fun v9 => .gop v8 true (.ld1 v9) fun v10 => .gop v8 true (.bin 1 .eql v10 (AV.str ⟨#[]⟩)) fun v11 => .op (.pick v8 v11 (AV.bool false)) fun v12 => .op (.fad 0 v1) fun v13 => .op (.ld1 v13) fun v14 => .op (.bin 0 .eql v14 (AV.int .i64 1)) fun v15 => .scope (.ite v15 (.leaf 0 [v15]) (.op (.bin 0 .eql v14 (AV.int .i64 2)) fun v16 => .scope (.ite v16 (.leaf 0 [v16]) (.op (.bin 0 .eql v14 (AV.int .i64 6)) fun v17 => .leaf 0 [v17])) (fun vs18 => .leaf 0 [g vs18 0]) fun t19 vs18 => tsel t19 1 (.leaf 1 vs18) .bad)) (fun vs20 => .ite (g vs20 0) (.gop v12 true (.fad 4 v1) fun v22 => .gop v12 true (.ld1 v22) fun v23 => .gop v12 true (.len 0 v23) fun v24 => .gop v12 true (.bin 0 .eql v24 (AV.int .i64 0)) fun v25 => .op (.pick v12 v25 (AV.bool false)) fun v26 => .fin [.val v26]) (.op (.bin 0 .eql v14 (AV.int .i64 3)) fun v27 => .ite v27 (.op (.fad 1 v1) fun v28 => .op (.ld1 v28) fun v29 => .op (.call n_impl_within [v29, AV.int .i64 0, AV.int .i64 2147483647]) fun v30 => .gop v30 true (.fad 2 v1) fun v31 => .gop v30 true (.ld1 v31) fun v32 => .gop v30 true (.bin 1 .eql v32 (AV.str ⟨#[]⟩)) fun v33 => .op (.pick v30 v33 (AV.bool false)) fun v34 => .gop v34 true (.fad 3 v1) fun v35 => .gop v34 true (.ld1 v35) fun v36 => .gop v34 true (.bin 1 .eql v36 (AV.str ⟨#[]⟩)) fun v37 => .op (.pick v34 v37 (AV.bool false)) fun v38 => .gop v38 true (.fad 4 v1) fun v39 => .gop v38 true (.ld1 v39) fun v40 => .gop v38 true (.len 0 v40) fun v41 => .gop v38 true (.bin 0 .eql v41 (AV.int .i64 0)) fun v42 => .op (.pick v38 v42 (AV.bool false)) fun v43 => .fin [.val v43]) (.op (.bin 0 .eql v14 (AV.int .i64 4)) fun v44 => .ite v44 (.op (.fad 1 v1) fun v45 => .op (.ld1 v45) fun v46 => .op (.bin 0 .eql v46 (AV.int .i64 0)) fun v47 => .gop v47 true (.fad 2 v1) fun v48 => .gop v47 true (.ld1 v48) fun v49 => .gop v47 true (.call n_impl_NameOk [v49]) fun v50 => .op (.pick v47 v50 (AV.bool false)) fun v51 => .gop v51 true (.fad 3 v1) fun v52 => .gop v51 true (.ld1 v52) fun v53 => .gop v51 true (.call n_impl_PlainOk [v53]) fun v54 => .op (.pick v51 v54 (AV.bool false)) fun v55 => .gop v55 true (.fad 4 v1) fun v56 => .gop v55 true (.ld1 v56) fun v57 => .gop v55 true (.len 0 v57) fun v58 => .gop v55 true (.bin 0 .eql v58 (AV.int .i64 0)) fun v59 => .op (.pick v55 v59 (AV.bool false)) fun v60 => .fin [.val v60]) (.op (.bin 0 .eql v14 (AV.int .i64 5)) fun v61 => .ite v61 (.op (.fad 1 v1) fun v62 => .op (.ld1 v62) fun v63 => .op (.call n_impl_within [v63, AV.int .i64 0, AV.int .i64 2147483647]) fun v64 => .gop v64 true (.fad 2 v1) fun v65 => .gop v64 true (.ld1 v65) fun v66 => .gop v64 true (.call n_impl_NameOk [v66]) fun v67 => .op (.pick v64 v67 (AV.bool false)) fun v68 => .gop v68 true (.fad 3 v1) fun v69 => .gop v68 true (.ld1 v69) fun v70 => .gop v68 true (.bin 1 .eql v70 (AV.str ⟨#[]⟩)) fun v71 => .op (.pick v68 v71 (AV.bool false)) fun v72 => .gop v72 true (.fad 4 v1) fun v73 => .gop v72 true (.ld1 v73) fun v74 => .gop v72 true (.len 0 v74) fun v75 => .gop v72 true (.bin 0 .eql v75 (AV.int .i64 0)) fun v76 => .op (.pick v72 v76 (AV.bool false)) fun v77 => .fin [.val v77]) (.op (.bin 0 .eql v14 (AV.int .i64 7)) fun v78 => .scope (.ite v78 (.leaf 0 [v78]) (.op (.bin 0 .eql v14 (AV.int .i64 8)) fun v79 => .leaf 0 [v79])) (fun vs80 => .ite (g vs80 0) (.gop v12 true (.fad 4 v1) fun v82 => .gop v12 true (.ld1 v82) fun v83 => .gop v12 true (.len 0 v83) fun v84 => .gop v12 true (.call n_impl_within [v84, AV.int .i64 1, AV.int .i64 4]) fun v85 => .op (.pick v12 v85 (AV.bool false)) fun v86 => .fin [.val v86]) (.op (.bin 0 .eql v14 (AV.int .i64 9)) fun v87 => .ite v87 (.gop v12 true (.fad 4 v1) fun v88 => .gop v12 true (.ld1 v88) fun v89 => .gop v12 true (.len 0 v89) fun v90 => .gop v12 true (.bin 0 .eql v90 (AV.int .i64 1)) fun v91 => .op (.pick v12 v91 (AV.bool false)) fun v92 => .fin [.val v92]) (.fin [.val (AV.bool false)]))) fun t81 vs80 => tsel t81 1 (.leaf 1 vs80) .bad))))) fun t21 vs20 => tsel t21 1 (.leaf 1 vs20) .bad
theorem c_impl_polHeadOk (x0 : AV) : CC Tryz.prog n_impl_polHeadOk [x0] (p_impl_polHeadOk x0) := cc Tryz.func348 [1, 3, 18, 19, 93] (fun _ => []) (by kernel_rfl)
/- spec.l5One -/
def p_spec_l5One (x0 : AV) : Prog := .op (.box x0) fun v1 => .op (.fad 0 v1) fun v2 => .op (.ld1 v2) fun v3 => .op (.bin 0 .eql v3 (AV.int .i64 1)) fun v4 => .scope (.ite v4 (.leaf 0 [v4]) (.op (.bin 0 .eql v3 (AV.int .i64 2)) fun v5 => .scope (.ite v5 (.leaf 0 [v5]) (.op (.bin 0 .eql v3 (AV.int .i64 6)) fun v6 => .leaf 0 [v6])) (fun vs7 => .leaf 0 [g vs7 0]) fun t8 vs7 => tsel t8 1 (.leaf 1 vs7) .bad)) (fun vs9 => .ite (g vs9 0) (.op (.fad 1 v1) fun v11 => .op (.ld1 v11) fun v12 => .op (.bin 0 .eql v12 (AV.int .i64 0)) fun v13 => .gop v13 true (.fad 2 v1) fun v14 => .gop v13 true (.ld1 v14) fun v15 => .gop v13 true (.bin 1 .eql v15 (AV.str ⟨#[]⟩)) fun v16 => .op (.pick v13 v16 (AV.bool false)) fun v17 => .gop v17 true (.fad 3 v1) fun v18 => .gop v17 true (.ld1 v18) fun v19 => .gop v17 true (.bin 1 .eql v19 (AV.str ⟨#[]⟩)) fun v20 => .op (.pick v17 v20 (AV.bool false)) fun v21 => .gop v21 true (.fad 4 v1) fun v22 => .gop v21 true (.ld1 v22) fun v23 => .gop v21 true (.len 0 v23) fun v24 => .gop v21 true (.bin 0 .eql v24 (AV.int .i64 0)) fun v25 => .op (.pick v21 v25 (AV.bool false)) fun v26 => .fin [.val v26]) (.op (.bin 0 .eql v3 (AV.int .i64 3)) fun v27 => .ite v27 (.op (.fad 1 v1) fun v28 => .op (.ld1 v28) fun v29 => .op (.call n_spec_l1In [v29, AV.int .i64 0, AV.int .i64 2147483647]) fun v30 => .gop v30 true (.fad 2 v1) fun v31 => .gop v30 true (.ld1 v31) fun v32 => .gop v30 true (.bin 1 .eql v32 (AV.str ⟨#[]⟩)) fun v33 => .op (.pick v30 v33 (AV.bool false)) fun v34 => .gop v34 true (.fad 3 v1) fun v35 => .gop v34 true (.ld1 v35) fun v36 => .gop v34 true (.bin 1 .eql v36 (AV.str ⟨#[]⟩)) fun v37 => .op (.pick v34 v37 (AV.bool false)) fun v38 => .gop v38 true (.fad 4 v1) fun v39 => .gop v38 true (.ld1 v39) fun v40 => .gop v38 true (.len 0 v40) fun v41 => .gop v38 true (.bin 0 .eql v41 (AV.int .i64 0)) fun v42 => .op (.pick v38 v42 (AV.bool false)) fun v43 => .fin [.val v43]) (.op (.bin 0 .eql v3 (AV.int .i64 4)) fun v44 => .ite v44 (.op (.fad 1 v1) fun v45 => .op (.ld1 v45) fun v46 => .op (.bin 0 .eql v46 (AV.int .i64 0)) fun v47 => .gop v47 true (.fad 2 v1) fun v48 => .gop v47 true (.ld1 v48) fun v49 => .gop v47 true (.call n_spec_NameOk [v49]) fun v50 => .op (.pick v47 v50 (AV.bool false)) fun v51 => .gop v51 true (.fad 3 v1) fun v52 => .gop v51 true (.ld1 v52) fun v53 => .gop v51 true (.call n_spec_PlainOk [v53]) fun v54 => .op (.pick v51 v54 (AV.bool false)) fun v55 => .gop v55 true (.fad 4 v1) fun v56 => .gop v55 true (.ld1 v56) fun v57 => .gop v55 true (.len 0 v57) fun v58 => .gop v55 true (.bin 0 .eql v58 (AV.int .i64 0)) fun v59 => .op (.pick v55 v59 (AV.bool false)) fun v60 => .fin [.val v60]) (.op (.bin 0 .eql v3 (AV.int .i64 5)) fun v61 => .ite v61 (.op (.fad 1 v1) fun v62 => .op (.ld1 v62) fun v63 => .op (.call n_spec_l1In [v63, AV.int .i64 0, AV.int .i64 2147483647]) fun v64 => .gop v64 true (.fad 2 v1) fun v65 => .gop v64 true (.ld1 v65) fun v66 => .gop v64 true (.call n_spec_NameOk [v66]) fun v67 => .op (.pick v64 v67 (AV.bool false)) fun v68 => .gop v68 true (.fad 3 v1) fun v69 => .gop v68 true (.ld1 v69) fun v70 => .gop v68 true (.bin 1 .eql v70 (AV.str ⟨#[]⟩)) fun v71 => .op (.pick v68 v71 (AV.bool false)) fun v72 => .gop v72 true (.fad 4 v1) fun v73 => .gop v72 true (.ld1 v73) fun v74 => .gop v72 true (.len 0 v74) fun v75 => .gop v72 true (.bin 0 .eql v75 (AV.int .i64 0)) fun v76 => .op (.pick v72 v76 (AV.bool false)) fun v77 => .fin [.val v77]) (.op (.bin 0 .eql v3 (AV.int .i64 7)) fun v78 => .scope (.ite v78 (.leaf 0 [v78]) (.op (.bin 0 .eql v3 (AV.int .i64 8)) fun v79 => .leaf 0 [v79])) (fun vs80 => .ite (g vs80 0) (.op (.fad 1 v1) fun v82 => .op (.ld1 v82) fun v83 => .op (.bin 0 .eql v83 (AV.int .i64 0)) fun v84 => .gop v84 true (.fad 2 v1) fun v85 => .gop v84 true (.ld1 v85) fun v86 => .gop v84 true (.bin 1 .eql v86 (AV.str ⟨#[]⟩)) fun v87 => .op (.pick v84 v87 (AV.bool false)) fun v88 => .gop v88 true (.fad 3 v1) fun v89 => .gop v88 true (.ld1 v89) fun v90 => .gop v88 true (.bin 1 .eql v90 (AV.str ⟨#[]⟩)) fun v91 => .op (.pick v88 v91 (AV.bool false)) fun v92 => .gop v92 true (.fad 4 v1) fun v93 => .gop v92 true (.ld1 v93) fun v94 => .gop v92 true (.len 0 v94) fun v95 => .gop v92 true (.call n_spec_l1In [v95, AV.int .i64 1, AV.int .i64 4]) fun v96 => .op (.pick v92 v96 (AV.bool false)) fun v97 => .fin [.val v97]) (.op (.fad 0 v1) fun v98 => .op (.ld1 v98) fun v99 => .op (.bin 0 .eql v99 (AV.int .i64 9)) fun v100 => .gop v100 true (.fad 1 v1) fun v101 => .gop v100 true (.ld1 v101) fun v102 => .gop v100 true (.bin 0 .eql v102 (AV.int .i64 0)) fun v103 => .op (.pick v100 v103 (AV.bool false)) fun v104 => .gop v104 true (.fad 2 v1) fun v105 => .gop v104 true (.ld1 v105) fun v106 => .gop v104 true (.bin 1 .eql v106 (AV.str ⟨#[]⟩)) fun v107 => .op (.pick v104 v107 (AV.bool false)) fun v108 => .gop v108 true (.fad 3 v1) fun v109 => .gop v108 true (.ld1 v109) fun v110 => .gop v108 true (.bin 1 .eql v110 (AV.str ⟨#[]⟩)) fun v111 => .op (.pick v108 v111 (AV.bool false)) fun v112 => .gop v112 true (.fad 4 v1) fun v113 => .gop v112 true (.ld1 v113) fun v114 => .gop v112 true (.len 0 v114) fun v115 => .gop v112 true (.bin 0 .eql v115 (AV.int .i64 1)) fun v116 => .op (.pick v112 v116 (AV.bool false)) fun v117 => .fin [.val v117])) fun t81 vs80 => tsel t81 1 (.leaf 1 vs80) .bad))))) fun t10 vs9 => tsel t10 1 (.leaf 1 vs9) .bad
theorem c_spec_l5One (x0 : AV) : CC Tryz.prog n_spec_l5One [x0] (p_spec_l5One x0) := cc Tryz.func325 [1, 4, 5, 91] (fun _ => []) (by kernel_rfl)
/- impl.polParts -/
def p_impl_polParts (x0 x1 : AV) : Prog := .op (.box x0) fun v1 => .op (.bin 0 .gtr x1 (AV.int .i64 4)) fun v2 => .gop v2 false (.ldn 5 v1) fun v3 => .gop v2 false (.call n_impl_polHeadOk [v3]) fun v4 => .gop v2 false (.una .not v4) fun v5 => .op (.pick v2 (AV.bool true) v5) fun v6 => .ite v6 (.fin [.val (AV.int .i64 13)]) (.op (.fad 4 v1) fun v7 => .op (.ld1 v7) fun v8 => .op (.len 0 v8) fun v9 => .loop [AV.int .i64 1, AV.int .i64 0] (fun vs10 => .op (.bin 0 .lss (g vs10 1) v9) fun v12 => .ite v12 (.op (.idx 5 v8 (g vs10 1)) fun v13 => .op (.ldn 5 v13) fun v14 => .op (.alloc z5_5ed) fun v15 => .op (.st 5 v15 v14) fun v16 => .op (.ldn 5 v15) fun v17 => .op (.bin 0 .add x1 (AV.int .i64 1)) fun v18 => .op (.call n_impl_polParts [v17, v18]) fun v19 => .op (.bin 0 .add (g vs10 0) v19) fun v20 => .op (.bin 0 .geq v20 (AV.int .i64 13)) fun v21 => .ite v21 (.fin [.val (AV.int .i64 13)]) (.op (.bin 0 .add (g vs10 1) (AV.int .i64 1)) fun v22 => .leaf 0 [v20, v22])) (.leaf 2 [g vs10 0, g vs10 1])) fun t11 vs10 => tsel t11 1 (.leaf 1 vs10) (tsel t11 2 (.fin [.val (g vs10 0)]) .bad))
theorem c_impl_polParts (x0 x1 : AV) : CC Tryz.prog n_impl_polParts [x0, x1] (p_impl_polParts x0 x1) := cc Tryz.func331 [1, 5, 16, 17, 18] (fun _ => []) (by kernel_rfl)
/- spec.l5Deep -/
def p_spec_l5Deep (x0 x1 : AV) : Prog := .op (.box x0) fun v1 => .op (.bin 0 .gtr x1 (AV.int .i64 4)) fun v2 => .gop v2 false (.ldn 5 v1) fun v3 => .gop v2 false (.call n_spec_l5One [v3]) fun v4 => .gop v2 false (.una .not v4) fun v5 => .op (.pick v2 (AV.bool true) v5) fun v6 => .ite v6 (.fin [.val (AV.bool false)]) (.loop [AV.int .i64 0] (fun vs7 => .op (.fad 4 v1) fun v9 => .op (.ld1 v9) fun v10 => .op (.len 0 v10) fun v11 => .op (.bin 0 .lss (g vs7 0) v11) fun v12 => .ite v12 (.op (.fad 4 v1) fun v13 => .op (.ld1 v13) fun v14 => .op (.idx 5 v14 (g vs7 0)) fun v15 => .op (.ldn 5 v15) fun v16 => .op (.bin 0 .add x1 (AV.int .i64 1)) fun v17 => .op (.call n_spec_l5Deep [v16, v17]) fun v18 => .op (.una .not v18) fun v19 => .ite v19 (.fin [.val (AV.bool false)]) (.op (.bin 0 .add (g vs7 0) (AV.int .i64 1)) fun v20 => .leaf 0 [v20])) (.leaf 2 [g vs7 0])) fun t8 vs7 => tsel t8 1 (.leaf 1 vs7) (tsel t8 2 (.fin [.val (AV.bool true)]) .bad))
theorem c_spec_l5Deep (x0 x1 : AV) : CC Tryz.prog n_spec_l5Deep [x0, x1] (p_spec_l5Deep x0 x1) := cc Tryz.func266 [1, 2, 5] (fun _ => []) (by kernel_rfl)
/- spec.PolCount -/
def p_spec_PolCount (x0 : AV) : Prog := .op (.box x0) fun v1 => .loop [AV.int .i64 1, AV.int .i64 0] (fun vs2 => .op (.fad 4 v1) fun v4 => .op (.ld1 v4) fun v5 => .op (.len 0 v5) fun v6 => .op (.bin 0 .lss (g vs2 1) v6) fun v7 => .ite v7 (.op (.fad 4 v1) fun v8 => .op (.ld1 v8) fun v9 => .op (.idx 5 v9 (g vs2 1)) fun v10 => .op (.ldn 5 v10) fun v11 => .op (.call n_spec_PolCount [v11]) fun v12 => .op (.bin 0 .add (g vs2 0) v12) fun v13 => .op (.bin 0 .add (g vs2 1) (AV.int .i64 1)) fun v14 => .leaf 0 [v13, v14]) (.leaf 2 [g vs2 0, g vs2 1])) fun t3 vs2 => tsel t3 1 (.leaf 1 vs2) (tsel t3 2 (.fin [.val (g vs2 0)]) .bad)
theorem c_spec_PolCount (x0 : AV) : CC Tryz.prog n_spec_PolCount [x0] (p_spec_PolCount x0) := cc Tryz.func265 [1, 3, 4] (fun _ => []) (by kernel_rfl)
/- spec.PolOk -/
def p_spec_PolOk (x0 : AV) : Prog := .op (.box x0) fun v1 => .op (.ldn 5 v1) fun v2 => .op (.call n_spec_PolCount [v2]) fun v3 => .op (.bin 0 .leq v3 (AV.int .i64 12)) fun v4 => .gop v4 true (.ldn 5 v1) fun v5 => .gop v4 true (.call n_spec_l5Deep [v5, AV.int .i64 1]) fun v6 => .op (.pick v4 v6 (AV.bool false)) fun v7 => .fin [.val v7]
theorem c_spec_PolOk (x0 : AV) : CC Tryz.prog n_spec_PolOk [x0] (p_spec_PolOk x0) := cc Tryz.func189 [] (fun _ => []) (by kernel_rfl)
/- impl.PolOk -/
def p_impl_PolOk (x0 : AV) : Prog := .op (.box x0) fun v1 => .op (.ldn 5 v1) fun v2 => .op (.call n_impl_polParts [v2, AV.int .i64 1]) fun v3 => .op (.bin 0 .leq v3 (AV.int .i64 12)) fun v4 => .fin [.val v4]
theorem c_impl_PolOk (x0 : AV) : CC Tryz.prog n_impl_PolOk [x0] (p_impl_PolOk x0) := cc Tryz.func282 [] (fun _ => []) (by kernel_rfl)
/- impl.ConfOk -/
def p_impl_ConfOk (x0 : AV) : Prog := .op (.box x0) fun v1 => .op (.fad 0 v1) fun v2 => .op (.ld1 v2) fun v3 => .op (.call n_impl_within [v3, AV.int .i64 1, AV.int .i64 3]) fun v4 => .gop v4 true (.fad 1 v1) fun v5 => .gop v4 true (.ld1 v5) fun v6 => .gop v4 true (.call n_impl_within [v6, AV.int .i64 1, AV.int .i64 50]) fun v7 => .op (.pick v4 v7 (AV.bool false)) fun v8 => .gop v8 true (.fad 2 v1) fun v9 => .gop v8 true (.ld1 v9) fun v10 => .gop v8 true (.call n_impl_within [v10, AV.int .i64 1, AV.int .i64 190]) fun v11 => .op (.pick v8 v11 (AV.bool false)) fun v12 => .gop v12 true (.fad 3 v1) fun v13 => .gop v12 true (.ld1 v13) fun v14 => .gop v12 true (.call n_impl_within [v14, AV.int .i64 1, AV.int .i64 6]) fun v15 => .op (.pick v12 v15 (AV.bool false)) fun v16 => .gop v16 true (.fad 4 v1) fun v17 => .gop v16 true (.ld1 v17) fun v18 => .gop v16 true (.call n_impl_within [v18, AV.int .i64 1, AV.int .i64 4]) fun v19 => .op (.pick v16 v19 (AV.bool false)) fun v20 => .gop v20 true (.fad 5 v1) fun v21 => .gop v20 true (.ld1 v21) fun v22 => .gop v20 true (.call n_impl_within [v22, AV.int .i64 0, AV.int .i64 99]) fun v23 => .op (.pick v20 v23 (AV.bool false)) fun v24 => .gop v24 true (.fad 6 v1) fun v25 => .gop v24 true (.ld1 v25) fun v26 => .gop v24 true (.call n_impl_within [v26, AV.int .i64 0, AV.int .i64 999]) fun v27 => .op (.pick v24 v27 (AV.bool false)) fun v28 => .gop v28 true (.fad 7 v1) fun v29 => .gop v28 true (.ldn 5 v29) fun v30 => .gop v28 true (.call n_impl_PolOk [v30]) fun v31 => .op (.pick v28 v31 (AV.bool false)) fun v32 => .fin [.val v32]
theorem c_impl_ConfOk (x0 : AV) : CC Tryz.prog n_impl_ConfOk [x0] (p_impl_ConfOk x0) := cc Tryz.func211 [] (fun _ => []) (by kernel_rfl)
/- spec.ConfOk -/
def p_spec_ConfOk (x0 : AV) : Prog := .op (.box x0) fun v1 => .op (.fad 0 v1) fun v2 => .op (.ld1 v2) fun v3 => .op (.call n_spec_l1In [v3, AV.int .i64 1, AV.int .i64 3]) fun v4 => .gop v4 true (.fad 1 v1) fun v5 => .gop v4 true (.ld1 v5) fun v6 => .gop v4 true (.call n_spec_l1In [v6, AV.int .i64 1, AV.int .i64 50]) fun v7 => .op (.pick v4 v7 (AV.bool false)) fun v8 => .gop v8 true (.fad 2 v1) fun v9 => .gop v8 true (.ld1 v9) fun v10 => .gop v8 true (.call n_spec_l1In [v10, AV.int .i64 1, AV.int .i64 190]) fun v11 => .op (.pick v8 v11 (AV.bool false)) fun v12 => .gop v12 true (.fad 3 v1) fun v13 => .gop v12 true (.ld1 v13) fun v14 => .gop v12 true (.call n_spec_l1In [v14, AV.int .i64 1, AV.int .i64 6]) fun v15 => .op (.pick v12 v15 (AV.bool false)) fun v16 => .gop v16 true (.fad 4 v1) fun v17 => .gop v16 true (.ld1 v17) fun v18 => .gop v16 true (.call n_spec_l1In [v18, AV.int .i64 1, AV.int .i64 4]) fun v19 => .op (.pick v16 v19 (AV.bool false)) fun v20 => .gop v20 true (.fad 5 v1) fun v21 => .gop v20 true (.ld1 v21) fun v22 => .gop v20 true (.call n_spec_l1In [v22, AV.int .i64 0, AV.int .i64 99]) fun v23 => .op (.pick v20 v23 (AV.bool false)) fun v24 => .gop v24 true (.fad 6 v1) fun v25 => .gop v24 true (.ld1 v25) fun v26 => .gop v24 true (.call n_spec_l1In [v26, AV.int .i64 0, AV.int .i64 999]) fun v27 => .op (.pick v24 v27 (AV.bool false)) fun v28 => .gop v28 true (.fad 7 v1) fun v29 => .gop v28 true (.ldn 5 v29) fun v30 => .gop v28 true (.call n_spec_PolOk [v30]) fun v31 => .op (.pick v28 v31 (AV.bool false)) fun v32 => .fin [.val v32]
theorem c_spec_ConfOk (x0 : AV) : CC Tryz.prog n_spec_ConfOk [x0] (p_spec_ConfOk x0) := cc Tryz.func113 [] (fun _ => []) (by kernel_rfl)
end
def bareP (p : Pol) : Prop := p.n = 0 ∧ p.key = ⟨#[]⟩ ∧ p.text = ⟨#[]⟩
def polHead (p : Pol) : Prop :=
  ((p.kind = 1 ∨ p.kind = 2 ∨ p.kind = 6) ∧ bareP p ∧ (p.l.length : Int) = 0) ∨
  (p.kind = 3 ∧ (0 ≤ p.n ∧ p.n ≤ 2147483647) ∧ p.key = ⟨#[]⟩ ∧ p.text = ⟨#[]⟩ ∧ (p.l.length : Int) = 0) ∨
  (p.kind = 4 ∧ p.n = 0 ∧ nameOk p.key ∧ plainOk p.text ∧ (p.l.length : Int) = 0) ∨
  (p.kind = 5 ∧ (0 ≤ p.n ∧ p.n ≤ 2147483647) ∧ nameOk p.key ∧ p.text = ⟨#[]⟩ ∧ (p.l.length : Int) = 0) ∨
  ((p.kind = 7 ∨ p.kind = 8) ∧ bareP p ∧ 1 ≤ (p.l.length : Int) ∧ (p.l.length : Int) ≤ 4) ∨
  (p.kind = 9 ∧ bareP p ∧ (p.l.length : Int) = 1)
theorem pol_ok {p : Pol} (ok : Cel.ok p) : p.key.size ≤ maxLen ∧ p.text.size ≤ maxLen ∧ ∀ y ∈ p.l, Cel.ok y := by
  cases p with
  | mk k n s t l => exact ⟨ok.2.2.1, ok.2.2.2.1, Pol.oks_iff.1 ok.2.2.2.2⟩

theorem s_impl_polHeadOk {h : AH} {p : Pol} {v : AV} {F : List Nat} (ok : Cel.ok p) (r : SlRep h v p.l F) : RCalls Tryz.prog n_impl_polHeadOk [.agg (p.cs v)] h (.bool (bp (polHead p))) := by
  refine reader (c_impl_polHeadOk _) (by simp only [old]) ?_
  unfold p_impl_polHeadOk
  obtain ⟨k1, k3, -⟩ := pol_ok ok
  (repeat' first|refine vs ?_|(refine br ?_ ?_<;>intro _<;>try(exfalso;first|omega|contradiction))|((with_reducible refine g_callf n_impl_NameOk ?_);(refine aw_rcall_b (s_impl_NameOk k1) ?_ ?_ <;> intro hn <;> first | replace hn := bp_true hn | replace hn := bp_false hn))|((with_reducible refine g_callf n_impl_PlainOk ?_);(refine aw_rcall_b (s_impl_PlainOk k3) ?_ ?_ <;> intro hp <;> first | replace hp := bp_true hp | replace hp := bp_false hp))|((with_reducible refine g_callf n_impl_within ?_);(refine aw_rcall_b s_impl_within ?_ ?_ <;> intro hb <;> first | replace hb := inB_t hb | replace hb := inB_f hb))|((with_reducible refine g_idx ?_);((first|refine ix ?_|refine ixi ?_|(refine ixg ?_;intro _ _)|(refine ixgi ?_;intro _ _));first|rintro _ _ _ _ _ ⟨rfl,rfl⟩ _|rintro _ _ _ _ _ ⟨_,rfl,_⟩ _|rintro _ _ _ _ _ ⟨_,_,_,_,rfl,rfl,_,_⟩ _|intro _ _ _ _ _ _ _))|(refine sx ?_;intro _ _)|((with_reducible refine g_awp ?_);simp only [g0,g1,g2]))
  all_goals first
    | (refine pt ?_; unfold polHead bareP; simp_all; done)
    | (refine pf ?_; unfold polHead bareP; simp_all; done)
    | (refine pf ?_; unfold polHead bareP; simp_all; omega)
    | (refine pt ?_; unfold polHead bareP; simp_all; omega)
    | (refine pf ?_; unfold polHead bareP; simp_all; intros; omega)
theorem s_spec_l5One {h : AH} {p : Pol} {v : AV} {F : List Nat} (ok : Cel.ok p) (r : SlRep h v p.l F) : RCalls Tryz.prog n_spec_l5One [.agg (p.cs v)] h (.bool (bp (polHead p))) := by
  refine reader (c_spec_l5One _) (by simp only [old]) ?_
  unfold p_spec_l5One
  obtain ⟨k1, k3, -⟩ := pol_ok ok
  (repeat' first|refine vs ?_|(refine br ?_ ?_<;>intro _<;>try(exfalso;first|omega|contradiction))|((with_reducible refine g_callf n_spec_NameOk ?_);(refine aw_rcall_b (s_spec_NameOk k1) ?_ ?_ <;> intro hn <;> first | replace hn := bp_true hn | replace hn := bp_false hn))|((with_reducible refine g_callf n_spec_PlainOk ?_);(refine aw_rcall_b (s_spec_PlainOk k3) ?_ ?_ <;> intro hp <;> first | replace hp := bp_true hp | replace hp := bp_false hp))|((with_reducible refine g_callf n_spec_l1In ?_);(refine aw_rcall_b s_spec_l1In ?_ ?_ <;> intro hb <;> first | replace hb := inB_t hb | replace hb := inB_f hb))|((with_reducible refine g_idx ?_);((first|refine ix ?_|refine ixi ?_|(refine ixg ?_;intro _ _)|(refine ixgi ?_;intro _ _));first|rintro _ _ _ _ _ ⟨rfl,rfl⟩ _|rintro _ _ _ _ _ ⟨_,rfl,_⟩ _|rintro _ _ _ _ _ ⟨_,_,_,_,rfl,rfl,_,_⟩ _|intro _ _ _ _ _ _ _))|(refine sx ?_;intro _ _)|((with_reducible refine g_awp ?_);simp only [g0,g1,g2]))
  all_goals first
    | (refine pt ?_; unfold polHead bareP; simp_all; done)
    | (refine pf ?_; unfold polHead bareP; simp_all; done)
    | (refine pf ?_; unfold polHead bareP; simp_all; omega)
    | (refine pt ?_; unfold polHead bareP; simp_all; omega)
    | (refine pf ?_; unfold polHead bareP; simp_all; intros; omega)

mutual
def cntP : Pol → Int
  | .mk _ _ _ _ l => 1 + cntsP l
def cntsP : List Pol → Int
  | [] => 0
  | p :: ps => cntP p + cntsP ps
end
theorem cntsP_eq : ∀ l : List Pol, cntsP l = sumI cntP l
  | [] => by simp [cntsP, sumI]
  | p :: ps => by simp only [cntsP, sumI, cntsP_eq ps]
theorem cntP_eq (x : Pol) : cntP x = 1 + sumI cntP x.l := by
  cases x with
  | mk k n s t l => rw [← cntsP_eq]; simp only [cntP, Pol.l]
theorem sumI_cnt {l : List Pol} (hb : ∀ x ∈ l, 1 ≤ cntP x ∧ cntP x ≤ 1 + (Sz.sz x : Nat)) : 0 ≤ sumI cntP l ∧ sumI cntP l ≤ l.length + (szs l : Nat) := by
  induction l with
  | nil => simp [sumI, szs]
  | cons x l ih =>
    have h1 := hb x (by simp); have h2 := ih fun y hy => hb y (by simp [hy])
    simp only [sumI, szs, List.length_cons]; omega
theorem cntP_b (x : Pol) : 1 ≤ cntP x ∧ cntP x ≤ 1 + (Sz.sz x : Nat) := by
  refine pol_ind (p := fun x => 1 ≤ cntP x ∧ cntP x ≤ 1 + (Sz.sz x : Nat)) ?_ x
  intro x ih
  have h1 := sumI_cnt ih
  have h2 := Pol.sz_eq x
  rw [cntP_eq]; omega
theorem cnt_take (l : List Pol) (i : Nat) : 0 ≤ sumI cntP (l.take i) ∧ sumI cntP (l.take i) ≤ sumI cntP l := by
  have h1 := sumI_cnt (l := l.take i) fun x _ => cntP_b x
  have h2 := sumI_cnt (l := l.drop i) fun x _ => cntP_b x
  have h3 := sumI_app cntP (l.take i) (l.drop i)
  rw [List.take_append_drop] at h3
  omega

theorem s_spec_PolCount (p : Pol) : Sz.sz p ≤ 67108864 → ∀ {h : AH} {v : AV} {F : List Nat}, SlRep h v p.l F → RCalls Tryz.prog n_spec_PolCount [.agg (p.cs v)] h (.int .i64 (cntP p)) := by
  refine pol_ind (p := fun p => Sz.sz p ≤ 67108864 → ∀ {h : AH} {v : AV} {F : List Nat}, SlRep h v p.l F → RCalls Tryz.prog n_spec_PolCount [.agg (p.cs v)] h (.int .i64 (cntP p))) ?_ p
  intro p ih hs h v F r
  refine reader (c_spec_PolCount _) (by simp only [old]) ?_
  unfold p_spec_PolCount
  have hsz := Pol.sz_eq p
  have hsm := r.small
  refine vs ?_
  refine aw_upto p.l.length (fun i vs h1 => vs = [.int .i64 (1 + sumI cntP (p.l.take i)), .int .i64 (i : Int)] ∧ i ≤ p.l.length ∧ Ext (h.push ⟨p.cs v, 0, 0⟩) h1) ⟨rfl, Nat.zero_le _, ext_auto⟩ ?_
  rintro i vs h1 _ ⟨rfl, hi, e1⟩
  simp only [g0, g1]
  refine vs ?_
  refine br (fun hlt => ?_) (fun hge => ?_)
  · obtain ⟨x, hx, -, ht⟩ := drop_step (show i < p.l.length by omega)
    have hm := List.mem_of_getElem? hx
    have h5 := szs_mem hm
    have h6 := cntP_b x
    have h7 := cnt_take p.l i
    have h8 := sumI_cnt (l := p.l) fun x _ => cntP_b x
    refine vs ?_
    refine aw_idx r hx rfl ?_
    intro bb o cs Fi aa q _
    rw [Pol.rep_iff] at q
    obtain ⟨w, rfl, q⟩ := q
    have s_spec_PolCount := @ih x hm (by omega)
    (repeat' first|refine vs ?_|(refine br ?_ ?_<;>intro _<;>try(exfalso;first|omega|contradiction))|((with_reducible refine g_callf n_spec_PolCount ?_);refine aw_rcall (s_spec_PolCount slr_auto) ?_)|((with_reducible refine g_idx ?_);((first|refine ix ?_|refine ixi ?_|(refine ixg ?_;intro _ _)|(refine ixgi ?_;intro _ _));first|rintro _ _ _ _ _ ⟨rfl,rfl⟩ _|rintro _ _ _ _ _ ⟨_,rfl,_⟩ _|rintro _ _ _ _ _ ⟨_,_,_,_,rfl,rfl,_,_⟩ _|intro _ _ _ _ _ _ _))|(refine sx ?_;intro _ _)|((with_reducible refine g_awp ?_);simp only [g0,g1,g2]))
    exact ⟨by omega, by rw [sumI_take _ ht, Int.add_assoc], by omega, ext_auto⟩
  · (repeat' first|refine vs ?_|(refine br ?_ ?_<;>intro _<;>try(exfalso;first|omega|contradiction))|((with_reducible refine g_idx ?_);((first|refine ix ?_|refine ixi ?_|(refine ixg ?_;intro _ _)|(refine ixgi ?_;intro _ _));first|rintro _ _ _ _ _ ⟨rfl,rfl⟩ _|rintro _ _ _ _ _ ⟨_,rfl,_⟩ _|rintro _ _ _ _ _ ⟨_,_,_,_,rfl,rfl,_,_⟩ _|intro _ _ _ _ _ _ _))|(refine sx ?_;intro _ _)|((with_reducible refine g_awp ?_);simp only [g0,g1,g2]))
    refine pi ?_
    rw [show i = p.l.length by omega, List.take_length, cntP_eq]

mutual
def deepP : Int → Pol → Prop
  | d, .mk k n s t l => d ≤ 4 ∧ polHead (.mk k n s t l) ∧ deepsP (d + 1) l
def deepsP : Int → List Pol → Prop
  | _, [] => True
  | d, p :: ps => deepP d p ∧ deepsP d ps
end
theorem deepsP_iff : ∀ {l : List Pol} {d : Int}, deepsP d l ↔ ∀ x ∈ l, deepP d x
  | [], d => by simp [deepsP]
  | p :: ps, d => by simp only [deepsP, List.mem_cons, forall_eq_or_imp, deepsP_iff (l := ps)]
theorem deepP_iff {d : Int} {x : Pol} : deepP d x ↔ d ≤ 4 ∧ polHead x ∧ ∀ y ∈ x.l, deepP (d + 1) y := by
  cases x with
  | mk k n s t l => rw [← deepsP_iff]; simp only [deepP, Pol.l]

theorem s_spec_l5Deep (p : Pol) : Cel.ok p → ∀ {h : AH} {d : Int} {v : AV} {F : List Nat}, 0 ≤ d → SlRep h v p.l F → RCalls Tryz.prog n_spec_l5Deep [.agg (p.cs v), .int .i64 d] h (.bool (bp (deepP d p))) := by
  refine pol_ind (p := fun p => Cel.ok p → ∀ {h : AH} {d : Int} {v : AV} {F : List Nat}, 0 ≤ d → SlRep h v p.l F → RCalls Tryz.prog n_spec_l5Deep [.agg (p.cs v), .int .i64 d] h (.bool (bp (deepP d p)))) ?_ p
  intro p ih ok h d v F hd r
  refine reader (c_spec_l5Deep _ _) (by simp only [old]) ?_
  unfold p_spec_l5Deep
  have hsm := r.small
  obtain ⟨-, -, okl⟩ := pol_ok ok
  (repeat' first|refine vs ?_|(refine br ?_ ?_<;>intro _<;>try(exfalso;first|omega|contradiction))|((with_reducible refine g_callf n_spec_l5One ?_);(refine aw_rcall_b (s_spec_l5One ok slr_auto) ?_ ?_ <;> intro hn <;> first | replace hn := bp_true hn | replace hn := bp_false hn))|((with_reducible refine g_idx ?_);((first|refine ix ?_|refine ixi ?_|(refine ixg ?_;intro _ _)|(refine ixgi ?_;intro _ _));first|rintro _ _ _ _ _ ⟨rfl,rfl⟩ _|rintro _ _ _ _ _ ⟨_,rfl,_⟩ _|rintro _ _ _ _ _ ⟨_,_,_,_,rfl,rfl,_,_⟩ _|intro _ _ _ _ _ _ _))|(refine sx ?_;intro _ _)|((with_reducible refine g_awp ?_);simp only [g0,g1,g2]))
  all_goals first
    | (refine pf ?_; rw [deepP_iff]; rintro ⟨a1, a2, a3⟩; first | contradiction | omega)
    | skip
  refine aw_upto p.l.length (fun i vs h1 => vs = [.int .i64 (i : Int)] ∧ i ≤ p.l.length ∧ Ext (h.push ⟨p.cs v, 0, 0⟩) h1 ∧ Upto p.l (fun _ x => deepP (d + 1) x) i) ⟨rfl, Nat.zero_le _, ext_auto, up0⟩ ?_
  rintro i vs h1 _ ⟨rfl, hi, e1, hu⟩
  simp only [g0]
  refine vs ?_
  refine br (fun hlt => ?_) (fun hge => ?_)
  · obtain ⟨x, hx, -, -⟩ := drop_step (show i < p.l.length by omega)
    have hm := List.mem_of_getElem? hx
    refine vs ?_
    refine aw_idx r hx rfl ?_
    intro bb o cs Fi aa q _
    rw [Pol.rep_iff] at q
    obtain ⟨w, rfl, q⟩ := q
    have s_spec_l5Deep := @ih x hm (okl x hm)
    (repeat' first|refine vs ?_|(refine br ?_ ?_<;>intro _<;>try(exfalso;first|omega|contradiction))|((with_reducible refine g_callf n_spec_l5Deep ?_);(refine aw_rcall_b (s_spec_l5Deep om_auto slr_auto) ?_ ?_ <;> intro hd2 <;> first | replace hd2 := bp_true hd2 | replace hd2 := bp_false hd2))|((with_reducible refine g_idx ?_);((first|refine ix ?_|refine ixi ?_|(refine ixg ?_;intro _ _)|(refine ixgi ?_;intro _ _));first|rintro _ _ _ _ _ ⟨rfl,rfl⟩ _|rintro _ _ _ _ _ ⟨_,rfl,_⟩ _|rintro _ _ _ _ _ ⟨_,_,_,_,rfl,rfl,_,_⟩ _|intro _ _ _ _ _ _ _))|(refine sx ?_;intro _ _)|((with_reducible refine g_awp ?_);simp only [g0,g1,g2]))
    · exact ⟨by omega, rfl, by omega, ext_auto, upS hu hx hd2⟩
    · refine pf ?_
      rw [deepP_iff]
      rintro ⟨a1, a2, a3⟩
      exact hd2 (a3 x hm)
  · (repeat' first|refine vs ?_|(refine br ?_ ?_<;>intro _<;>try(exfalso;first|omega|contradiction))|((with_reducible refine g_idx ?_);((first|refine ix ?_|refine ixi ?_|(refine ixg ?_;intro _ _)|(refine ixgi ?_;intro _ _));first|rintro _ _ _ _ _ ⟨rfl,rfl⟩ _|rintro _ _ _ _ _ ⟨_,rfl,_⟩ _|rintro _ _ _ _ _ ⟨_,_,_,_,rfl,rfl,_,_⟩ _|intro _ _ _ _ _ _ _))|(refine sx ?_;intro _ _)|((with_reducible refine g_awp ?_);simp only [g0,g1,g2]))
    rw [show i = p.l.length by omega] at hu
    refine pt ?_
    rw [deepP_iff]
    exact ⟨by omega, hn, upAll hu⟩

noncomputable def parts (d : Int) (p : Pol) : Int := if bp (deepP d p ∧ cntP p ≤ 12) = true then cntP p else 13
theorem parts_y {d : Int} {p : Pol} (h1 : deepP d p) (h2 : cntP p ≤ 12) : parts d p = cntP p := by unfold parts; rw [if_pos (bp_t ⟨h1, h2⟩)]
theorem parts_n {d : Int} {p : Pol} (h : ¬ (deepP d p ∧ cntP p ≤ 12)) : parts d p = 13 := by unfold parts; rw [bp_f h, if_neg (by decide)]
theorem parts_c (d : Int) (p : Pol) : (parts d p = cntP p ∧ deepP d p ∧ cntP p ≤ 12) ∨ (parts d p = 13 ∧ ¬ (deepP d p ∧ cntP p ≤ 12)) := by
  by_cases h : deepP d p ∧ cntP p ≤ 12
  · exact .inl ⟨parts_y h.1 h.2, h⟩
  · exact .inr ⟨parts_n h, h⟩
theorem s_impl_polParts (p : Pol) : Cel.ok p → ∀ {h : AH} {d : Int} {v : AV} {F : List Nat}, 0 ≤ d → SlRep h v p.l F → RCalls Tryz.prog n_impl_polParts [.agg (p.cs v), .int .i64 d] h (.int .i64 (parts d p)) := by
  refine pol_ind (p := fun p => Cel.ok p → ∀ {h : AH} {d : Int} {v : AV} {F : List Nat}, 0 ≤ d → SlRep h v p.l F → RCalls Tryz.prog n_impl_polParts [.agg (p.cs v), .int .i64 d] h (.int .i64 (parts d p))) ?_ p
  intro p ih ok h d v F hd r
  refine reader (c_impl_polParts _ _) (by simp only [old]) ?_
  unfold p_impl_polParts
  have hsm := r.small
  obtain ⟨-, -, okl⟩ := pol_ok ok
  (repeat' first|refine vs ?_|(refine br ?_ ?_<;>intro _<;>try(exfalso;first|omega|contradiction))|((with_reducible refine g_callf n_impl_polHeadOk ?_);(refine aw_rcall_b (s_impl_polHeadOk ok slr_auto) ?_ ?_ <;> intro hn <;> first | replace hn := bp_true hn | replace hn := bp_false hn))|((with_reducible refine g_idx ?_);((first|refine ix ?_|refine ixi ?_|(refine ixg ?_;intro _ _)|(refine ixgi ?_;intro _ _));first|rintro _ _ _ _ _ ⟨rfl,rfl⟩ _|rintro _ _ _ _ _ ⟨_,rfl,_⟩ _|rintro _ _ _ _ _ ⟨_,_,_,_,rfl,rfl,_,_⟩ _|intro _ _ _ _ _ _ _))|(refine sx ?_;intro _ _)|((with_reducible refine g_awp ?_);simp only [g0,g1,g2]))
  all_goals first
    | (refine pi (parts_n ?_).symm; rw [deepP_iff]; rintro ⟨⟨a1, a2, a3⟩, a4⟩; first | contradiction | omega)
    | skip
  refine aw_upto p.l.length (fun i vs h1 => vs = [.int .i64 (1 + sumI cntP (p.l.take i)), .int .i64 (i : Int)] ∧ i ≤ p.l.length ∧ Ext (h.push ⟨p.cs v, 0, 0⟩) h1 ∧ Upto p.l (fun _ x => deepP (d + 1) x) i ∧ 1 + sumI cntP (p.l.take i) ≤ 12) ⟨rfl, Nat.zero_le _, ext_auto, up0, by simp [sumI]⟩ ?_
  rintro i vs h1 _ ⟨rfl, hi, e1, hu, hc⟩
  simp only [g0, g1]
  refine br (fun hlt => ?_) (fun hge => ?_)
  · obtain ⟨x, hx, -, ht⟩ := drop_step (show i < p.l.length by omega)
    have hm := List.mem_of_getElem? hx
    have h6 := cntP_b x
    have h7 := cnt_take p.l i
    have h8 := cnt_take p.l (i + 1)
    rw [sumI_take _ ht] at h8
    have h9 := cntP_eq p
    have h10 := parts_c (d + 1) x
    refine vs ?_
    refine aw_idx r hx rfl ?_
    intro bb o cs Fi aa q _
    rw [Pol.rep_iff] at q
    obtain ⟨w, rfl, q⟩ := q
    have s_impl_polParts := @ih x hm (okl x hm)
    (repeat' first|refine vs ?_|(refine br ?_ ?_<;>intro _<;>try(exfalso;first|omega|contradiction))|((with_reducible refine g_callf n_impl_polParts ?_);refine aw_rcall (s_impl_polParts om_auto slr_auto) ?_)|((with_reducible refine g_idx ?_);((first|refine ix ?_|refine ixi ?_|(refine ixg ?_;intro _ _)|(refine ixgi ?_;intro _ _));first|rintro _ _ _ _ _ ⟨rfl,rfl⟩ _|rintro _ _ _ _ _ ⟨_,rfl,_⟩ _|rintro _ _ _ _ _ ⟨_,_,_,_,rfl,rfl,_,_⟩ _|intro _ _ _ _ _ _ _))|(refine sx ?_;intro _ _)|((with_reducible refine g_awp ?_);simp only [g0,g1,g2]))
    · refine pi (parts_n ?_).symm
      rw [deepP_iff]
      rintro ⟨⟨a1, a2, a3⟩, a4⟩
      have := a3 x hm
      rcases h10 with ⟨b1, b2, b3⟩ | ⟨b1, b2⟩
      · omega
      · exact b2 ⟨this, by omega⟩
    · rcases h10 with ⟨b1, b2, b3⟩ | ⟨b1, b2⟩
      · exact ⟨by omega, by rw [sumI_take _ ht, Int.add_assoc, b1], by omega, ext_auto, upS hu hx b2, by rw [sumI_take _ ht]; omega⟩
      · exfalso; omega
  · (repeat' first|refine vs ?_|(refine br ?_ ?_<;>intro _<;>try(exfalso;first|omega|contradiction))|((with_reducible refine g_idx ?_);((first|refine ix ?_|refine ixi ?_|(refine ixg ?_;intro _ _)|(refine ixgi ?_;intro _ _));first|rintro _ _ _ _ _ ⟨rfl,rfl⟩ _|rintro _ _ _ _ _ ⟨_,rfl,_⟩ _|rintro _ _ _ _ _ ⟨_,_,_,_,rfl,rfl,_,_⟩ _|intro _ _ _ _ _ _ _))|(refine sx ?_;intro _ _)|((with_reducible refine g_awp ?_);simp only [g0,g1,g2]))
    have e : i = p.l.length := by omega
    rw [e, List.take_length] at hc
    rw [e] at hu
    have h9 := cntP_eq p
    rw [e, List.take_length, ← h9]
    refine pi (parts_y ?_ (by omega)).symm
    rw [deepP_iff]
    exact ⟨by omega, hn, upAll hu⟩

def polOk (p : Pol) : Prop := deepP 1 p ∧ cntP p ≤ 12
theorem s_impl_PolOk {h : AH} {p : Pol} {v : AV} {F : List Nat} (ok : Cel.ok p) (r : SlRep h v p.l F) : RCalls Tryz.prog n_impl_PolOk [.agg (p.cs v)] h (.bool (bp (polOk p))) := by
  refine reader (c_impl_PolOk _) (by simp only [old]) ?_
  unfold p_impl_PolOk
  have h10 := parts_c 1 p
  (repeat' first|refine vs ?_|(refine br ?_ ?_<;>intro _<;>try(exfalso;first|omega|contradiction))|((with_reducible refine g_callf n_impl_polParts ?_);refine aw_rcall (s_impl_polParts p ok om_auto slr_auto) ?_)|((with_reducible refine g_idx ?_);((first|refine ix ?_|refine ixi ?_|(refine ixg ?_;intro _ _)|(refine ixgi ?_;intro _ _));first|rintro _ _ _ _ _ ⟨rfl,rfl⟩ _|rintro _ _ _ _ _ ⟨_,rfl,_⟩ _|rintro _ _ _ _ _ ⟨_,_,_,_,rfl,rfl,_,_⟩ _|intro _ _ _ _ _ _ _))|(refine sx ?_;intro _ _)|((with_reducible refine g_awp ?_);simp only [g0,g1,g2]))
  · rcases h10 with ⟨b1, b2, b3⟩ | ⟨b1, b2⟩
    · exact pt ⟨b2, b3⟩
    · exfalso; omega
  · rcases h10 with ⟨b1, b2, b3⟩ | ⟨b1, b2⟩
    · exfalso; omega
    · exact pf b2
theorem s_spec_PolOk {h : AH} {p : Pol} {v : AV} {F : List Nat} (ok : Cel.ok p) (hs : Sz.sz p ≤ 67108864) (r : SlRep h v p.l F) : RCalls Tryz.prog n_spec_PolOk [.agg (p.cs v)] h (.bool (bp (polOk p))) := by
  refine reader (c_spec_PolOk _) (by simp only [old]) ?_
  unfold p_spec_PolOk
  (repeat' first|refine vs ?_|(refine br ?_ ?_<;>intro _<;>try(exfalso;first|omega|contradiction))|((with_reducible refine g_callf n_spec_PolCount ?_);refine aw_rcall (s_spec_PolCount p hs slr_auto) ?_)|((with_reducible refine g_callf n_spec_l5Deep ?_);(refine aw_rcall_b (s_spec_l5Deep p ok om_auto slr_auto) ?_ ?_ <;> intro hn <;> first | replace hn := bp_true hn | replace hn := bp_false hn))|((with_reducible refine g_idx ?_);((first|refine ix ?_|refine ixi ?_|(refine ixg ?_;intro _ _)|(refine ixgi ?_;intro _ _));first|rintro _ _ _ _ _ ⟨rfl,rfl⟩ _|rintro _ _ _ _ _ ⟨_,rfl,_⟩ _|rintro _ _ _ _ _ ⟨_,_,_,_,rfl,rfl,_,_⟩ _|intro _ _ _ _ _ _ _))|(refine sx ?_;intro _ _)|((with_reducible refine g_awp ?_);simp only [g0,g1,g2]))
  all_goals first
    | exact pt ⟨by assumption, by assumption⟩
    | exact pf fun k => by obtain ⟨a1, a2⟩ := k; first | contradiction | omega

def confOk (c : Conf) : Prop := (1 ≤ c.stripes ∧ c.stripes ≤ 3) ∧ (1 ≤ c.wait ∧ c.wait ≤ 50) ∧ (1 ≤ c.budget ∧ c.budget ≤ 190) ∧ (1 ≤ c.cache ∧ c.cache ≤ 6) ∧ (1 ≤ c.queue ∧ c.queue ≤ 4) ∧ (0 ≤ c.rate ∧ c.rate ≤ 99) ∧ (0 ≤ c.burst ∧ c.burst ≤ 999) ∧ polOk c.rule
theorem s_impl_ConfOk {h : AH} {c : Conf} {v : AV} {F : List Nat} (ok : Cel.ok c.rule) (r : SlRep h v c.rule.l F) : RCalls Tryz.prog n_impl_ConfOk [.agg (c.cs v)] h (.bool (bp (confOk c))) := by
  refine reader (c_impl_ConfOk _) (by simp only [old]) ?_
  unfold p_impl_ConfOk
  (repeat' first|refine vs ?_|(refine br ?_ ?_<;>intro _<;>try(exfalso;first|omega|contradiction))|((with_reducible refine g_callf n_impl_within ?_);(refine aw_rcall_b s_impl_within ?_ ?_ <;> intro hb <;> first | replace hb := inB_t hb | replace hb := inB_f hb))|((with_reducible refine g_callf n_impl_PolOk ?_);(refine aw_rcall_b (s_impl_PolOk (p := c.rule) ok slr_auto) ?_ ?_ <;> intro hn <;> first | replace hn := bp_true hn | replace hn := bp_false hn))|((with_reducible refine g_idx ?_);((first|refine ix ?_|refine ixi ?_|(refine ixg ?_;intro _ _)|(refine ixgi ?_;intro _ _));first|rintro _ _ _ _ _ ⟨rfl,rfl⟩ _|rintro _ _ _ _ _ ⟨_,rfl,_⟩ _|rintro _ _ _ _ _ ⟨_,_,_,_,rfl,rfl,_,_⟩ _|intro _ _ _ _ _ _ _))|(refine sx ?_;intro _ _)|((with_reducible refine g_awp ?_);simp only [g0,g1,g2]))
  all_goals first
    | exact pt ⟨by omega, by omega, by omega, by omega, by omega, by omega, by omega, by assumption⟩
    | exact pf fun k => by obtain ⟨a1, a2, a3, a4, a5, a6, a7, a8⟩ := k; first | contradiction | omega
theorem s_spec_ConfOk {h : AH} {c : Conf} {v : AV} {F : List Nat} (ok : Cel.ok c.rule) (hs : Sz.sz c ≤ 67108864) (r : SlRep h v c.rule.l F) : RCalls Tryz.prog n_spec_ConfOk [.agg (c.cs v)] h (.bool (bp (confOk c))) := by
  refine reader (c_spec_ConfOk _) (by simp only [old]) ?_
  unfold p_spec_ConfOk
  (repeat' first|refine vs ?_|(refine br ?_ ?_<;>intro _<;>try(exfalso;first|omega|contradiction))|((with_reducible refine g_callf n_spec_l1In ?_);(refine aw_rcall_b s_spec_l1In ?_ ?_ <;> intro hb <;> first | replace hb := inB_t hb | replace hb := inB_f hb))|((with_reducible refine g_callf n_spec_PolOk ?_);(refine aw_rcall_b (s_spec_PolOk (p := c.rule) ok hs slr_auto) ?_ ?_ <;> intro hn <;> first | replace hn := bp_true hn | replace hn := bp_false hn))|((with_reducible refine g_idx ?_);((first|refine ix ?_|refine ixi ?_|(refine ixg ?_;intro _ _)|(refine ixgi ?_;intro _ _));first|rintro _ _ _ _ _ ⟨rfl,rfl⟩ _|rintro _ _ _ _ _ ⟨_,rfl,_⟩ _|rintro _ _ _ _ _ ⟨_,_,_,_,rfl,rfl,_,_⟩ _|intro _ _ _ _ _ _ _))|(refine sx ?_;intro _ _)|((with_reducible refine g_awp ?_);simp only [g0,g1,g2]))
  all_goals first
    | exact pt ⟨by omega, by omega, by omega, by omega, by omega, by omega, by omega, by assumption⟩
    | exact pf fun k => by obtain ⟨a1, a2, a3, a4, a5, a6, a7, a8⟩ := k; first | contradiction | omega
end Go.Proofs.YtjnekdbdmoibgaaGreat
