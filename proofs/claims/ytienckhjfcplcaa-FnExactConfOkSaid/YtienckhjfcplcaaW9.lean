
/- Rules that may be; set-ups that may be. -/
import Derived.Test.YtienckhjfcplcaaW7
set_option linter.unusedSimpArgs false
set_option linter.unusedVariables false
set_option maxHeartbeats 1000000
namespace Go.Proofs.Ytienckhjfcplcaa
open Go Go.Ab
section
/- impl.polHeadOk -/
def p_impl_polHeadOk (x0 : AV) : Prog := .op (.box x0) fun v => .op (.fad 1 v) fun v_1 => .op (.ld1 v_1) fun v_2 => .op (.bin 0 .eql v_2 (AV.int .i64 0)) fun v_3 => .gop v_3 true (.fad 2 v) fun v_4 => .gop v_3 true (.ld1 v_4) fun v_5 => .gop v_3 true (.bin 1 .eql v_5 (AV.str ⟨#[]⟩)) fun v_6 => .op (.pick v_3 v_6 (AV.bool false)) fun v_7 => .gop v_7 true (.fad 3 v) fun v_8 => .gop v_7 true (.ld1 v_8) fun v_9 => .gop v_7 true (.bin 1 .eql v_9 (AV.str ⟨#[]⟩)) fun v_10 => .op (.pick v_7 v_10 (AV.bool false)) fun v_11 => .op (.fad 0 v) fun v_12 => .op (.ld1 v_12) fun v_13 => .op (.bin 0 .eql v_13 (AV.int .i64 1)) fun v_14 => .scope (.ite v_14 (.leaf 0 [v_14]) (.op (.bin 0 .eql v_13 (AV.int .i64 2)) fun v => .scope (.ite v (.leaf 0 [v]) (.op (.bin 0 .eql v_13 (AV.int .i64 6)) fun v => .leaf 0 [v])) (fun vs => .leaf 0 [g vs 0]) fun t vs => tsel t 1 (.leaf 1 vs) .bad)) (fun vs => .ite (g vs 0) (.gop v_11 true (.fad 4 v) fun v => .gop v_11 true (.ld1 v) fun v => .gop v_11 true (.len 0 v) fun v => .gop v_11 true (.bin 0 .eql v (AV.int .i64 0)) fun v => .op (.pick v_11 v (AV.bool false)) fun v => .fin [.val v]) (.op (.bin 0 .eql v_13 (AV.int .i64 3)) fun v_15 => .ite v_15 (.op (.fad 1 v) fun v_16 => .op (.ld1 v_16) fun v_17 => .op (.call n_impl_within [v_17, AV.int .i64 0, AV.int .i64 2147483647]) fun v_18 => .gop v_18 true (.fad 2 v) fun v_19 => .gop v_18 true (.ld1 v_19) fun v_20 => .gop v_18 true (.bin 1 .eql v_20 (AV.str ⟨#[]⟩)) fun v_21 => .op (.pick v_18 v_21 (AV.bool false)) fun v_22 => .gop v_22 true (.fad 3 v) fun v_23 => .gop v_22 true (.ld1 v_23) fun v_24 => .gop v_22 true (.bin 1 .eql v_24 (AV.str ⟨#[]⟩)) fun v_25 => .op (.pick v_22 v_25 (AV.bool false)) fun v_26 => .gop v_26 true (.fad 4 v) fun v => .gop v_26 true (.ld1 v) fun v => .gop v_26 true (.len 0 v) fun v => .gop v_26 true (.bin 0 .eql v (AV.int .i64 0)) fun v => .op (.pick v_26 v (AV.bool false)) fun v => .fin [.val v]) (.op (.bin 0 .eql v_13 (AV.int .i64 4)) fun v_16 => .ite v_16 (.op (.fad 1 v) fun v_17 => .op (.ld1 v_17) fun v_18 => .op (.bin 0 .eql v_18 (AV.int .i64 0)) fun v_19 => .gop v_19 true (.fad 2 v) fun v_20 => .gop v_19 true (.ld1 v_20) fun v_21 => .gop v_19 true (.call n_impl_NameOk [v_21]) fun v_22 => .op (.pick v_19 v_22 (AV.bool false)) fun v_23 => .gop v_23 true (.fad 3 v) fun v_24 => .gop v_23 true (.ld1 v_24) fun v_25 => .gop v_23 true (.call n_impl_PlainOk [v_25]) fun v_26 => .op (.pick v_23 v_26 (AV.bool false)) fun v_27 => .gop v_27 true (.fad 4 v) fun v => .gop v_27 true (.ld1 v) fun v => .gop v_27 true (.len 0 v) fun v => .gop v_27 true (.bin 0 .eql v (AV.int .i64 0)) fun v => .op (.pick v_27 v (AV.bool false)) fun v => .fin [.val v]) (.op (.bin 0 .eql v_13 (AV.int .i64 5)) fun v_17 => .ite v_17 (.op (.fad 1 v) fun v_18 => .op (.ld1 v_18) fun v_19 => .op (.call n_impl_within [v_19, AV.int .i64 0, AV.int .i64 2147483647]) fun v_20 => .gop v_20 true (.fad 2 v) fun v_21 => .gop v_20 true (.ld1 v_21) fun v_22 => .gop v_20 true (.call n_impl_NameOk [v_22]) fun v_23 => .op (.pick v_20 v_23 (AV.bool false)) fun v_24 => .gop v_24 true (.fad 3 v) fun v_25 => .gop v_24 true (.ld1 v_25) fun v_26 => .gop v_24 true (.bin 1 .eql v_26 (AV.str ⟨#[]⟩)) fun v_27 => .op (.pick v_24 v_27 (AV.bool false)) fun v_28 => .gop v_28 true (.fad 4 v) fun v => .gop v_28 true (.ld1 v) fun v => .gop v_28 true (.len 0 v) fun v => .gop v_28 true (.bin 0 .eql v (AV.int .i64 0)) fun v => .op (.pick v_28 v (AV.bool false)) fun v => .fin [.val v]) (.op (.bin 0 .eql v_13 (AV.int .i64 7)) fun v_18 => .scope (.ite v_18 (.leaf 0 [v_18]) (.op (.bin 0 .eql v_13 (AV.int .i64 8)) fun v => .leaf 0 [v])) (fun vs => .ite (g vs 0) (.gop v_11 true (.fad 4 v) fun v => .gop v_11 true (.ld1 v) fun v => .gop v_11 true (.len 0 v) fun v => .gop v_11 true (.call n_impl_within [v, AV.int .i64 1, AV.int .i64 4]) fun v => .op (.pick v_11 v (AV.bool false)) fun v => .fin [.val v]) (.op (.bin 0 .eql v_13 (AV.int .i64 9)) fun v_19 => .ite v_19 (.gop v_11 true (.fad 4 v) fun v => .gop v_11 true (.ld1 v) fun v => .gop v_11 true (.len 0 v) fun v => .gop v_11 true (.bin 0 .eql v (AV.int .i64 1)) fun v => .op (.pick v_11 v (AV.bool false)) fun v => .fin [.val v]) (.fin [.val (AV.bool false)]))) fun t vs => tsel t 1 (.leaf 1 vs) .bad))))) fun t vs => tsel t 1 (.leaf 1 vs) .bad
theorem c_impl_polHeadOk (x0 : AV) {h : AH} {R : AV → AH → Prop} (g : (p_impl_polHeadOk x0).awp Try.prog h fun t vs h' => t = 1 ∧ ∃ v, vs = [v] ∧ R v h') : ACalls Try.prog n_impl_polHeadOk [x0] h R :=
  acalls_of follows Try.func153 (by kernel_rfl) (by kernel_rfl) [1, 3, 18, 19, 93] (fun _ => []) (show trF Try.prog Try.f153 _ _ [x0] = p_impl_polHeadOk x0 by kernel_rfl) g
/- spec.l5One -/
def p_spec_l5One (x0 : AV) : Prog := .op (.box x0) fun v => .op (.fad 0 v) fun v_1 => .op (.ld1 v_1) fun v_2 => .op (.bin 0 .eql v_2 (AV.int .i64 1)) fun v_3 => .scope (.ite v_3 (.leaf 0 [v_3]) (.op (.bin 0 .eql v_2 (AV.int .i64 2)) fun v => .scope (.ite v (.leaf 0 [v]) (.op (.bin 0 .eql v_2 (AV.int .i64 6)) fun v => .leaf 0 [v])) (fun vs => .leaf 0 [g vs 0]) fun t vs => tsel t 1 (.leaf 1 vs) .bad)) (fun vs => .ite (g vs 0) (.op (.fad 1 v) fun v_4 => .op (.ld1 v_4) fun v_5 => .op (.bin 0 .eql v_5 (AV.int .i64 0)) fun v_6 => .gop v_6 true (.fad 2 v) fun v_7 => .gop v_6 true (.ld1 v_7) fun v_8 => .gop v_6 true (.bin 1 .eql v_8 (AV.str ⟨#[]⟩)) fun v_9 => .op (.pick v_6 v_9 (AV.bool false)) fun v_10 => .gop v_10 true (.fad 3 v) fun v_11 => .gop v_10 true (.ld1 v_11) fun v_12 => .gop v_10 true (.bin 1 .eql v_12 (AV.str ⟨#[]⟩)) fun v_13 => .op (.pick v_10 v_13 (AV.bool false)) fun v_14 => .gop v_14 true (.fad 4 v) fun v => .gop v_14 true (.ld1 v) fun v => .gop v_14 true (.len 0 v) fun v => .gop v_14 true (.bin 0 .eql v (AV.int .i64 0)) fun v => .op (.pick v_14 v (AV.bool false)) fun v => .fin [.val v]) (.op (.bin 0 .eql v_2 (AV.int .i64 3)) fun v_4 => .ite v_4 (.op (.fad 1 v) fun v_5 => .op (.ld1 v_5) fun v_6 => .op (.call n_spec_l1In [v_6, AV.int .i64 0, AV.int .i64 2147483647]) fun v_7 => .gop v_7 true (.fad 2 v) fun v_8 => .gop v_7 true (.ld1 v_8) fun v_9 => .gop v_7 true (.bin 1 .eql v_9 (AV.str ⟨#[]⟩)) fun v_10 => .op (.pick v_7 v_10 (AV.bool false)) fun v_11 => .gop v_11 true (.fad 3 v) fun v_12 => .gop v_11 true (.ld1 v_12) fun v_13 => .gop v_11 true (.bin 1 .eql v_13 (AV.str ⟨#[]⟩)) fun v_14 => .op (.pick v_11 v_14 (AV.bool false)) fun v_15 => .gop v_15 true (.fad 4 v) fun v => .gop v_15 true (.ld1 v) fun v => .gop v_15 true (.len 0 v) fun v => .gop v_15 true (.bin 0 .eql v (AV.int .i64 0)) fun v => .op (.pick v_15 v (AV.bool false)) fun v => .fin [.val v]) (.op (.bin 0 .eql v_2 (AV.int .i64 4)) fun v_5 => .ite v_5 (.op (.fad 1 v) fun v_6 => .op (.ld1 v_6) fun v_7 => .op (.bin 0 .eql v_7 (AV.int .i64 0)) fun v_8 => .gop v_8 true (.fad 2 v) fun v_9 => .gop v_8 true (.ld1 v_9) fun v_10 => .gop v_8 true (.call n_spec_NameOk [v_10]) fun v_11 => .op (.pick v_8 v_11 (AV.bool false)) fun v_12 => .gop v_12 true (.fad 3 v) fun v_13 => .gop v_12 true (.ld1 v_13) fun v_14 => .gop v_12 true (.call n_spec_PlainOk [v_14]) fun v_15 => .op (.pick v_12 v_15 (AV.bool false)) fun v_16 => .gop v_16 true (.fad 4 v) fun v => .gop v_16 true (.ld1 v) fun v => .gop v_16 true (.len 0 v) fun v => .gop v_16 true (.bin 0 .eql v (AV.int .i64 0)) fun v => .op (.pick v_16 v (AV.bool false)) fun v => .fin [.val v]) (.op (.bin 0 .eql v_2 (AV.int .i64 5)) fun v_6 => .ite v_6 (.op (.fad 1 v) fun v_7 => .op (.ld1 v_7) fun v_8 => .op (.call n_spec_l1In [v_8, AV.int .i64 0, AV.int .i64 2147483647]) fun v_9 => .gop v_9 true (.fad 2 v) fun v_10 => .gop v_9 true (.ld1 v_10) fun v_11 => .gop v_9 true (.call n_spec_NameOk [v_11]) fun v_12 => .op (.pick v_9 v_12 (AV.bool false)) fun v_13 => .gop v_13 true (.fad 3 v) fun v_14 => .gop v_13 true (.ld1 v_14) fun v_15 => .gop v_13 true (.bin 1 .eql v_15 (AV.str ⟨#[]⟩)) fun v_16 => .op (.pick v_13 v_16 (AV.bool false)) fun v_17 => .gop v_17 true (.fad 4 v) fun v => .gop v_17 true (.ld1 v) fun v => .gop v_17 true (.len 0 v) fun v => .gop v_17 true (.bin 0 .eql v (AV.int .i64 0)) fun v => .op (.pick v_17 v (AV.bool false)) fun v => .fin [.val v]) (.op (.bin 0 .eql v_2 (AV.int .i64 7)) fun v_7 => .scope (.ite v_7 (.leaf 0 [v_7]) (.op (.bin 0 .eql v_2 (AV.int .i64 8)) fun v => .leaf 0 [v])) (fun vs => .ite (g vs 0) (.op (.fad 1 v) fun v_8 => .op (.ld1 v_8) fun v_9 => .op (.bin 0 .eql v_9 (AV.int .i64 0)) fun v_10 => .gop v_10 true (.fad 2 v) fun v_11 => .gop v_10 true (.ld1 v_11) fun v_12 => .gop v_10 true (.bin 1 .eql v_12 (AV.str ⟨#[]⟩)) fun v_13 => .op (.pick v_10 v_13 (AV.bool false)) fun v_14 => .gop v_14 true (.fad 3 v) fun v_15 => .gop v_14 true (.ld1 v_15) fun v_16 => .gop v_14 true (.bin 1 .eql v_16 (AV.str ⟨#[]⟩)) fun v_17 => .op (.pick v_14 v_17 (AV.bool false)) fun v_18 => .gop v_18 true (.fad 4 v) fun v => .gop v_18 true (.ld1 v) fun v => .gop v_18 true (.len 0 v) fun v => .gop v_18 true (.call n_spec_l1In [v, AV.int .i64 1, AV.int .i64 4]) fun v => .op (.pick v_18 v (AV.bool false)) fun v => .fin [.val v]) (.op (.fad 0 v) fun v_8 => .op (.ld1 v_8) fun v_9 => .op (.bin 0 .eql v_9 (AV.int .i64 9)) fun v_10 => .gop v_10 true (.fad 1 v) fun v_11 => .gop v_10 true (.ld1 v_11) fun v_12 => .gop v_10 true (.bin 0 .eql v_12 (AV.int .i64 0)) fun v_13 => .op (.pick v_10 v_13 (AV.bool false)) fun v_14 => .gop v_14 true (.fad 2 v) fun v_15 => .gop v_14 true (.ld1 v_15) fun v_16 => .gop v_14 true (.bin 1 .eql v_16 (AV.str ⟨#[]⟩)) fun v_17 => .op (.pick v_14 v_17 (AV.bool false)) fun v_18 => .gop v_18 true (.fad 3 v) fun v_19 => .gop v_18 true (.ld1 v_19) fun v_20 => .gop v_18 true (.bin 1 .eql v_20 (AV.str ⟨#[]⟩)) fun v_21 => .op (.pick v_18 v_21 (AV.bool false)) fun v_22 => .gop v_22 true (.fad 4 v) fun v => .gop v_22 true (.ld1 v) fun v => .gop v_22 true (.len 0 v) fun v => .gop v_22 true (.bin 0 .eql v (AV.int .i64 1)) fun v => .op (.pick v_22 v (AV.bool false)) fun v => .fin [.val v])) fun t vs => tsel t 1 (.leaf 1 vs) .bad))))) fun t vs => tsel t 1 (.leaf 1 vs) .bad
theorem c_spec_l5One (x0 : AV) {h : AH} {R : AV → AH → Prop} (g : (p_spec_l5One x0).awp Try.prog h fun t vs h' => t = 1 ∧ ∃ v, vs = [v] ∧ R v h') : ACalls Try.prog n_spec_l5One [x0] h R :=
  acalls_of follows Try.func152 (by kernel_rfl) (by kernel_rfl) [1, 4, 5, 91] (fun _ => []) (show trF Try.prog Try.f152 _ _ [x0] = p_spec_l5One x0 by kernel_rfl) g
/- impl.polParts -/
def p_impl_polParts (x0 x1 : AV) : Prog := .op (.box x0) fun v => .op (.bin 0 .gtr x1 (AV.int .i64 4)) fun v_1 => .gop v_1 false (.ldn 5 v) fun v_2 => .gop v_1 false (.call n_impl_polHeadOk [v_2]) fun v_3 => .gop v_1 false (.una .not v_3) fun v_4 => .op (.pick v_1 (AV.bool true) v_4) fun v_5 => .ite v_5 (.fin [.val (AV.int .i64 13)]) (.op (.fad 4 v) fun v => .op (.ld1 v) fun v => .op (.len 0 v) fun v_6 => .loop [AV.int .i64 1, AV.int .i64 0] (fun vs => .op (.bin 0 .lss (g vs 1) v_6) fun v_7 => .ite v_7 (.op (.idx 5 v (g vs 1)) fun v => .op (.ldn 5 v) fun v => .op (.alloc [AV.int .i64 0, AV.int .i64 0, AV.str ⟨#[]⟩, AV.str ⟨#[]⟩, AV.nils]) fun v_8 => .op (.st 5 v_8 v) fun v => .op (.ldn 5 v_8) fun v => .op (.bin 0 .add x1 (AV.int .i64 1)) fun v_9 => .op (.call n_impl_polParts [v, v_9]) fun v => .op (.bin 0 .add (g vs 0) v) fun v => .op (.bin 0 .geq v (AV.int .i64 13)) fun v_10 => .ite v_10 (.fin [.val (AV.int .i64 13)]) (.op (.bin 0 .add (g vs 1) (AV.int .i64 1)) fun v_11 => .leaf 0 [v, v_11])) (.leaf 2 [g vs 0, g vs 1])) fun t vs => tsel t 1 (.leaf 1 vs) (tsel t 2 (.fin [.val (g vs 0)]) .bad))
theorem c_impl_polParts (x0 x1 : AV) {h : AH} {R : AV → AH → Prop} (g : (p_impl_polParts x0 x1).awp Try.prog h fun t vs h' => t = 1 ∧ ∃ v, vs = [v] ∧ R v h') : ACalls Try.prog n_impl_polParts [x0, x1] h R :=
  acalls_of follows Try.func127 (by kernel_rfl) (by kernel_rfl) [1, 5, 16, 17, 18] (fun _ => []) (show trF Try.prog Try.f127 _ _ [x0, x1] = p_impl_polParts x0 x1 by kernel_rfl) g
/- spec.l5Deep -/
def p_spec_l5Deep (x0 x1 : AV) : Prog := .op (.box x0) fun v => .op (.bin 0 .gtr x1 (AV.int .i64 4)) fun v_1 => .gop v_1 false (.ldn 5 v) fun v_2 => .gop v_1 false (.call n_spec_l5One [v_2]) fun v_3 => .gop v_1 false (.una .not v_3) fun v_4 => .op (.pick v_1 (AV.bool true) v_4) fun v_5 => .ite v_5 (.fin [.val (AV.bool false)]) (.loop [AV.int .i64 0] (fun vs => .op (.fad 4 v) fun v_6 => .op (.ld1 v_6) fun v_7 => .op (.len 0 v_7) fun v_8 => .op (.bin 0 .lss (g vs 0) v_8) fun v_9 => .ite v_9 (.op (.fad 4 v) fun v => .op (.ld1 v) fun v => .op (.idx 5 v (g vs 0)) fun v => .op (.ldn 5 v) fun v => .op (.bin 0 .add x1 (AV.int .i64 1)) fun v_10 => .op (.call n_spec_l5Deep [v, v_10]) fun v => .op (.una .not v) fun v => .ite v (.fin [.val (AV.bool false)]) (.op (.bin 0 .add (g vs 0) (AV.int .i64 1)) fun v => .leaf 0 [v])) (.leaf 2 [g vs 0])) fun t vs => tsel t 1 (.leaf 1 vs) (tsel t 2 (.fin [.val (AV.bool true)]) .bad))
theorem c_spec_l5Deep (x0 x1 : AV) {h : AH} {R : AV → AH → Prop} (g : (p_spec_l5Deep x0 x1).awp Try.prog h fun t vs h' => t = 1 ∧ ∃ v, vs = [v] ∧ R v h') : ACalls Try.prog n_spec_l5Deep [x0, x1] h R :=
  acalls_of follows Try.func125 (by kernel_rfl) (by kernel_rfl) [1, 2, 5] (fun _ => []) (show trF Try.prog Try.f125 _ _ [x0, x1] = p_spec_l5Deep x0 x1 by kernel_rfl) g
/- spec.PolCount -/
def p_spec_PolCount (x0 : AV) : Prog := .op (.box x0) fun v => .loop [AV.int .i64 1, AV.int .i64 0] (fun vs => .op (.fad 4 v) fun v_1 => .op (.ld1 v_1) fun v_2 => .op (.len 0 v_2) fun v_3 => .op (.bin 0 .lss (g vs 1) v_3) fun v_4 => .ite v_4 (.op (.fad 4 v) fun v => .op (.ld1 v) fun v => .op (.idx 5 v (g vs 1)) fun v => .op (.ldn 5 v) fun v => .op (.call n_spec_PolCount [v]) fun v => .op (.bin 0 .add (g vs 0) v) fun v => .op (.bin 0 .add (g vs 1) (AV.int .i64 1)) fun v_5 => .leaf 0 [v, v_5]) (.leaf 2 [g vs 0, g vs 1])) fun t vs => tsel t 1 (.leaf 1 vs) (tsel t 2 (.fin [.val (g vs 0)]) .bad)
theorem c_spec_PolCount (x0 : AV) {h : AH} {R : AV → AH → Prop} (g : (p_spec_PolCount x0).awp Try.prog h fun t vs h' => t = 1 ∧ ∃ v, vs = [v] ∧ R v h') : ACalls Try.prog n_spec_PolCount [x0] h R :=
  acalls_of follows Try.func124 (by kernel_rfl) (by kernel_rfl) [1, 3, 4] (fun _ => []) (show trF Try.prog Try.f124 _ _ [x0] = p_spec_PolCount x0 by kernel_rfl) g
/- spec.PolOk -/
def p_spec_PolOk (x0 : AV) : Prog := .op (.box x0) fun v => .op (.ldn 5 v) fun v_1 => .op (.call n_spec_PolCount [v_1]) fun v_2 => .op (.bin 0 .leq v_2 (AV.int .i64 12)) fun v_3 => .gop v_3 true (.ldn 5 v) fun v => .gop v_3 true (.call n_spec_l5Deep [v, AV.int .i64 1]) fun v => .op (.pick v_3 v (AV.bool false)) fun v => .fin [.val v]
theorem c_spec_PolOk (x0 : AV) {h : AH} {R : AV → AH → Prop} (g : (p_spec_PolOk x0).awp Try.prog h fun t vs h' => t = 1 ∧ ∃ v, vs = [v] ∧ R v h') : ACalls Try.prog n_spec_PolOk [x0] h R :=
  acalls_of follows Try.func73 (by kernel_rfl) (by kernel_rfl) [] (fun _ => []) (show trF Try.prog Try.f73 _ _ [x0] = p_spec_PolOk x0 by kernel_rfl) g
/- impl.PolOk -/
def p_impl_PolOk (x0 : AV) : Prog := .op (.box x0) fun v => .op (.ldn 5 v) fun v => .op (.call n_impl_polParts [v, AV.int .i64 1]) fun v => .op (.bin 0 .leq v (AV.int .i64 12)) fun v => .fin [.val v]
theorem c_impl_PolOk (x0 : AV) {h : AH} {R : AV → AH → Prop} (g : (p_impl_PolOk x0).awp Try.prog h fun t vs h' => t = 1 ∧ ∃ v, vs = [v] ∧ R v h') : ACalls Try.prog n_impl_PolOk [x0] h R :=
  acalls_of follows Try.func76 (by kernel_rfl) (by kernel_rfl) [] (fun _ => []) (show trF Try.prog Try.f76 _ _ [x0] = p_impl_PolOk x0 by kernel_rfl) g
/- impl.ConfOk -/
def p_impl_ConfOk (x0 : AV) : Prog := .op (.box x0) fun v => .op (.fad 0 v) fun v_1 => .op (.ld1 v_1) fun v_2 => .op (.call n_impl_within [v_2, AV.int .i64 1, AV.int .i64 3]) fun v_3 => .gop v_3 true (.fad 1 v) fun v_4 => .gop v_3 true (.ld1 v_4) fun v_5 => .gop v_3 true (.call n_impl_within [v_5, AV.int .i64 1, AV.int .i64 50]) fun v_6 => .op (.pick v_3 v_6 (AV.bool false)) fun v_7 => .gop v_7 true (.fad 2 v) fun v_8 => .gop v_7 true (.ld1 v_8) fun v_9 => .gop v_7 true (.call n_impl_within [v_9, AV.int .i64 1, AV.int .i64 190]) fun v_10 => .op (.pick v_7 v_10 (AV.bool false)) fun v_11 => .gop v_11 true (.fad 3 v) fun v_12 => .gop v_11 true (.ld1 v_12) fun v_13 => .gop v_11 true (.call n_impl_within [v_13, AV.int .i64 1, AV.int .i64 6]) fun v_14 => .op (.pick v_11 v_14 (AV.bool false)) fun v_15 => .gop v_15 true (.fad 4 v) fun v_16 => .gop v_15 true (.ld1 v_16) fun v_17 => .gop v_15 true (.call n_impl_within [v_17, AV.int .i64 1, AV.int .i64 4]) fun v_18 => .op (.pick v_15 v_18 (AV.bool false)) fun v_19 => .gop v_19 true (.fad 5 v) fun v_20 => .gop v_19 true (.ld1 v_20) fun v_21 => .gop v_19 true (.call n_impl_within [v_21, AV.int .i64 0, AV.int .i64 99]) fun v_22 => .op (.pick v_19 v_22 (AV.bool false)) fun v_23 => .gop v_23 true (.fad 6 v) fun v_24 => .gop v_23 true (.ld1 v_24) fun v_25 => .gop v_23 true (.call n_impl_within [v_25, AV.int .i64 0, AV.int .i64 999]) fun v_26 => .op (.pick v_23 v_26 (AV.bool false)) fun v_27 => .gop v_27 true (.fad 7 v) fun v => .gop v_27 true (.ldn 5 v) fun v => .gop v_27 true (.call n_impl_PolOk [v]) fun v => .op (.pick v_27 v (AV.bool false)) fun v => .fin [.val v]
theorem c_impl_ConfOk (x0 : AV) {h : AH} {R : AV → AH → Prop} (g : (p_impl_ConfOk x0).awp Try.prog h fun t vs h' => t = 1 ∧ ∃ v, vs = [v] ∧ R v h') : ACalls Try.prog n_impl_ConfOk [x0] h R :=
  acalls_of follows Try.func18 (by kernel_rfl) (by kernel_rfl) [] (fun _ => []) (show trF Try.prog Try.f18 _ _ [x0] = p_impl_ConfOk x0 by kernel_rfl) g
/- spec.ConfOk -/
def p_spec_ConfOk (x0 : AV) : Prog := .op (.box x0) fun v => .op (.fad 0 v) fun v_1 => .op (.ld1 v_1) fun v_2 => .op (.call n_spec_l1In [v_2, AV.int .i64 1, AV.int .i64 3]) fun v_3 => .gop v_3 true (.fad 1 v) fun v_4 => .gop v_3 true (.ld1 v_4) fun v_5 => .gop v_3 true (.call n_spec_l1In [v_5, AV.int .i64 1, AV.int .i64 50]) fun v_6 => .op (.pick v_3 v_6 (AV.bool false)) fun v_7 => .gop v_7 true (.fad 2 v) fun v_8 => .gop v_7 true (.ld1 v_8) fun v_9 => .gop v_7 true (.call n_spec_l1In [v_9, AV.int .i64 1, AV.int .i64 190]) fun v_10 => .op (.pick v_7 v_10 (AV.bool false)) fun v_11 => .gop v_11 true (.fad 3 v) fun v_12 => .gop v_11 true (.ld1 v_12) fun v_13 => .gop v_11 true (.call n_spec_l1In [v_13, AV.int .i64 1, AV.int .i64 6]) fun v_14 => .op (.pick v_11 v_14 (AV.bool false)) fun v_15 => .gop v_15 true (.fad 4 v) fun v_16 => .gop v_15 true (.ld1 v_16) fun v_17 => .gop v_15 true (.call n_spec_l1In [v_17, AV.int .i64 1, AV.int .i64 4]) fun v_18 => .op (.pick v_15 v_18 (AV.bool false)) fun v_19 => .gop v_19 true (.fad 5 v) fun v_20 => .gop v_19 true (.ld1 v_20) fun v_21 => .gop v_19 true (.call n_spec_l1In [v_21, AV.int .i64 0, AV.int .i64 99]) fun v_22 => .op (.pick v_19 v_22 (AV.bool false)) fun v_23 => .gop v_23 true (.fad 6 v) fun v_24 => .gop v_23 true (.ld1 v_24) fun v_25 => .gop v_23 true (.call n_spec_l1In [v_25, AV.int .i64 0, AV.int .i64 999]) fun v_26 => .op (.pick v_23 v_26 (AV.bool false)) fun v_27 => .gop v_27 true (.fad 7 v) fun v => .gop v_27 true (.ldn 5 v) fun v => .gop v_27 true (.call n_spec_PolOk [v]) fun v => .op (.pick v_27 v (AV.bool false)) fun v => .fin [.val v]
theorem c_spec_ConfOk (x0 : AV) {h : AH} {R : AV → AH → Prop} (g : (p_spec_ConfOk x0).awp Try.prog h fun t vs h' => t = 1 ∧ ∃ v, vs = [v] ∧ R v h') : ACalls Try.prog n_spec_ConfOk [x0] h R :=
  acalls_of follows Try.func16 (by kernel_rfl) (by kernel_rfl) [] (fun _ => []) (show trF Try.prog Try.f16 _ _ [x0] = p_spec_ConfOk x0 by kernel_rfl) g
end
def bareP (p : Pol) : Prop := p.n = 0 ∧ p.key = ⟨#[]⟩ ∧ p.text = ⟨#[]⟩
def polHead (p : Pol) : Prop :=
  ((p.kind = 1 ∨ p.kind = 2 ∨ p.kind = 6) ∧ bareP p ∧ (p.l.length : Int) = 0) ∨
  (p.kind = 3 ∧ (0 ≤ p.n ∧ p.n ≤ 2147483647) ∧ p.key = ⟨#[]⟩ ∧ p.text = ⟨#[]⟩ ∧ (p.l.length : Int) = 0) ∨
  (p.kind = 4 ∧ p.n = 0 ∧ nameOk p.key ∧ plainOk p.text ∧ (p.l.length : Int) = 0) ∨
  (p.kind = 5 ∧ (0 ≤ p.n ∧ p.n ≤ 2147483647) ∧ nameOk p.key ∧ p.text = ⟨#[]⟩ ∧ (p.l.length : Int) = 0) ∨
  ((p.kind = 7 ∨ p.kind = 8) ∧ bareP p ∧ 1 ≤ (p.l.length : Int) ∧ (p.l.length : Int) ≤ 4) ∨
  (p.kind = 9 ∧ bareP p ∧ (p.l.length : Int) = 1)
theorem pol_ok {p : Pol} (ok : Cel.ok p) : p.key.size ≤ maxLen ∧ p.text.size ≤ maxLen ∧ ∀ y ∈ p.l, Cel.ok y := by
  cases p with
  | mk k n s t l => exact ⟨ok.2.2.1, ok.2.2.2.1, Pol.oks_iff.1 ok.2.2.2.2⟩

theorem s_impl_polHeadOk {h : AH} {p : Pol} {v : AV} {F : List Nat} (ok : Cel.ok p) (r : SlRep h v p.l F) : RCalls Try.prog n_impl_polHeadOk [.agg (p.cs v)] h (.bool (bp (polHead p))) := by
  refine reader (c_impl_polHeadOk _) (by simp only [old]) ?_
  unfold p_impl_polHeadOk
  obtain ⟨k1, k3, -⟩ := pol_ok ok
  (repeat' first|refine vs ?_|(refine br ?_ ?_<;>intro _<;>try(exfalso;first|omega|contradiction))|((with_reducible refine g_callf n_impl_NameOk ?_);(refine aw_rcall_b (s_impl_NameOk k1) ?_ ?_ <;> intro hn <;> first | replace hn := bp_true hn | replace hn := bp_false hn))|((with_reducible refine g_callf n_impl_PlainOk ?_);(refine aw_rcall_b (s_impl_PlainOk k3) ?_ ?_ <;> intro hp <;> first | replace hp := bp_true hp | replace hp := bp_false hp))|((with_reducible refine g_callf n_impl_within ?_);(refine aw_rcall_b s_impl_within ?_ ?_ <;> intro hb <;> first | replace hb := inB_t hb | replace hb := inB_f hb))|((with_reducible refine g_idx ?_);((first|refine ix ?_|refine ixi ?_|(refine ixg ?_;intro _ _)|(refine ixgi ?_;intro _ _));first|rintro _ _ _ _ _ ⟨rfl,rfl⟩ _|rintro _ _ _ _ _ ⟨_,rfl,_⟩ _|rintro _ _ _ _ _ ⟨_,_,_,_,rfl,rfl,_,_⟩ _|intro _ _ _ _ _ _ _))|(refine sx ?_;intro _ _)|((with_reducible refine g_awp ?_);simp only [g0,g1,g2]))
  all_goals first
    | (refine pt ?_; unfold polHead bareP; simp_all; done)
    | (refine pf ?_; unfold polHead bareP; simp_all; done)
    | (refine pf ?_; unfold polHead bareP; simp_all; omega)
    | (refine pt ?_; unfold polHead bareP; simp_all; omega)
    | (refine pf ?_; unfold polHead bareP; simp_all; intros; omega)
theorem s_spec_l5One {h : AH} {p : Pol} {v : AV} {F : List Nat} (ok : Cel.ok p) (r : SlRep h v p.l F) : RCalls Try.prog n_spec_l5One [.agg (p.cs v)] h (.bool (bp (polHead p))) := by
  refine reader (c_spec_l5One _) (by simp only [old]) ?_
  unfold p_spec_l5One
  obtain ⟨k1, k3, -⟩ := pol_ok ok
  (repeat' first|refine vs ?_|(refine br ?_ ?_<;>intro _<;>try(exfalso;first|omega|contradiction))|((with_reducible refine g_callf n_spec_NameOk ?_);(refine aw_rcall_b (s_spec_NameOk k1) ?_ ?_ <;> intro hn <;> first | replace hn := bp_true hn | replace hn := bp_false hn))|((with_reducible refine g_callf n_spec_PlainOk ?_);(refine aw_rcall_b (s_spec_PlainOk k3) ?_ ?_ <;> intro hp <;> first | replace hp := bp_true hp | replace hp := bp_false hp))|((with_reducible refine g_callf n_spec_l1In ?_);(refine aw_rcall_b s_spec_l1In ?_ ?_ <;> intro hb <;> first | replace hb := inB_t hb | replace hb := inB_f hb))|((with_reducible refine g_idx ?_);((first|refine ix ?_|refine ixi ?_|(refine ixg ?_;intro _ _)|(refine ixgi ?_;intro _ _));first|rintro _ _ _ _ _ ⟨rfl,rfl⟩ _|rintro _ _ _ _ _ ⟨_,rfl,_⟩ _|rintro _ _ _ _ _ ⟨_,_,_,_,rfl,rfl,_,_⟩ _|intro _ _ _ _ _ _ _))|(refine sx ?_;intro _ _)|((with_reducible refine g_awp ?_);simp only [g0,g1,g2]))
  all_goals first
    | (refine pt ?_; unfold polHead bareP; simp_all; done)
    | (refine pf ?_; unfold polHead bareP; simp_all; done)
    | (refine pf ?_; unfold polHead bareP; simp_all; omega)
    | (refine pt ?_; unfold polHead bareP; simp_all; omega)
    | (refine pf ?_; unfold polHead bareP; simp_all; intros; omega)

mutual
def cntP : Pol → Int
  | .mk _ _ _ _ l => 1 + cntsP l
def cntsP : List Pol → Int
  | [] => 0
  | p :: ps => cntP p + cntsP ps
end
theorem cntsP_eq : ∀ l : List Pol, cntsP l = sumI cntP l
  | [] => by simp [cntsP, sumI]
  | p :: ps => by simp only [cntsP, sumI, cntsP_eq ps]
theorem cntP_eq (x : Pol) : cntP x = 1 + sumI cntP x.l := by
  cases x with
  | mk k n s t l => rw [← cntsP_eq]; simp only [cntP, Pol.l]
theorem sumI_cnt {l : List Pol} (hb : ∀ x ∈ l, 1 ≤ cntP x ∧ cntP x ≤ 1 + (Sz.sz x : Nat)) : 0 ≤ sumI cntP l ∧ sumI cntP l ≤ l.length + (szs l : Nat) := by
  induction l with
  | nil => simp [sumI, szs]
  | cons x l ih =>
    have h1 := hb x (by simp); have h2 := ih fun y hy => hb y (by simp [hy])
    simp only [sumI, szs, List.length_cons]; omega
theorem cntP_b (x : Pol) : 1 ≤ cntP x ∧ cntP x ≤ 1 + (Sz.sz x : Nat) := by
  refine pol_ind (p := fun x => 1 ≤ cntP x ∧ cntP x ≤ 1 + (Sz.sz x : Nat)) ?_ x
  intro x ih
  have h1 := sumI_cnt ih
  have h2 := Pol.sz_eq x
  rw [cntP_eq]; omega
theorem cnt_take (l : List Pol) (i : Nat) : 0 ≤ sumI cntP (l.take i) ∧ sumI cntP (l.take i) ≤ sumI cntP l := by
  have h1 := sumI_cnt (l := l.take i) fun x _ => cntP_b x
  have h2 := sumI_cnt (l := l.drop i) fun x _ => cntP_b x
  have h3 := sumI_app cntP (l.take i) (l.drop i)
  rw [List.take_append_drop] at h3
  omega

theorem s_spec_PolCount (p : Pol) : Sz.sz p ≤ 1048576 → ∀ {h : AH} {v : AV} {F : List Nat}, SlRep h v p.l F → RCalls Try.prog n_spec_PolCount [.agg (p.cs v)] h (.int .i64 (cntP p)) := by
  refine pol_ind (p := fun p => Sz.sz p ≤ 1048576 → ∀ {h : AH} {v : AV} {F : List Nat}, SlRep h v p.l F → RCalls Try.prog n_spec_PolCount [.agg (p.cs v)] h (.int .i64 (cntP p))) ?_ p
  intro p ih hs h v F r
  refine reader (c_spec_PolCount _) (by simp only [old]) ?_
  unfold p_spec_PolCount
  have hsz := Pol.sz_eq p
  have hsm := r.small
  refine vs ?_
  refine aw_upto p.l.length (fun i vs h1 => vs = [.int .i64 (1 + sumI cntP (p.l.take i)), .int .i64 (i : Int)] ∧ i ≤ p.l.length ∧ Ext (h.push ⟨p.cs v, 0, 0⟩) h1) ⟨rfl, Nat.zero_le _, ext_auto⟩ ?_
  rintro i vs h1 _ ⟨rfl, hi, e1⟩
  simp only [g0, g1]
  refine vs ?_
  refine br (fun hlt => ?_) (fun hge => ?_)
  · obtain ⟨x, hx, -, ht⟩ := drop_step (show i < p.l.length by omega)
    have hm := List.mem_of_getElem? hx
    have h5 := szs_mem hm
    have h6 := cntP_b x
    have h7 := cnt_take p.l i
    have h8 := sumI_cnt (l := p.l) fun x _ => cntP_b x
    refine vs ?_
    refine aw_idx r hx rfl ?_
    intro bb o cs Fi aa q _
    rw [Pol.rep_iff] at q
    obtain ⟨w, rfl, q⟩ := q
    have s_spec_PolCount := @ih x hm (by omega)
    (repeat' first|refine vs ?_|(refine br ?_ ?_<;>intro _<;>try(exfalso;first|omega|contradiction))|((with_reducible refine g_callf n_spec_PolCount ?_);refine aw_rcall (s_spec_PolCount slr_auto) ?_)|((with_reducible refine g_idx ?_);((first|refine ix ?_|refine ixi ?_|(refine ixg ?_;intro _ _)|(refine ixgi ?_;intro _ _));first|rintro _ _ _ _ _ ⟨rfl,rfl⟩ _|rintro _ _ _ _ _ ⟨_,rfl,_⟩ _|rintro _ _ _ _ _ ⟨_,_,_,_,rfl,rfl,_,_⟩ _|intro _ _ _ _ _ _ _))|(refine sx ?_;intro _ _)|((with_reducible refine g_awp ?_);simp only [g0,g1,g2]))
    exact ⟨by omega, by rw [sumI_take _ ht, Int.add_assoc], by omega, ext_auto⟩
  · (repeat' first|refine vs ?_|(refine br ?_ ?_<;>intro _<;>try(exfalso;first|omega|contradiction))|((with_reducible refine g_idx ?_);((first|refine ix ?_|refine ixi ?_|(refine ixg ?_;intro _ _)|(refine ixgi ?_;intro _ _));first|rintro _ _ _ _ _ ⟨rfl,rfl⟩ _|rintro _ _ _ _ _ ⟨_,rfl,_⟩ _|rintro _ _ _ _ _ ⟨_,_,_,_,rfl,rfl,_,_⟩ _|intro _ _ _ _ _ _ _))|(refine sx ?_;intro _ _)|((with_reducible refine g_awp ?_);simp only [g0,g1,g2]))
    refine pi ?_
    rw [show i = p.l.length by omega, List.take_length, cntP_eq]

mutual
def deepP : Int → Pol → Prop
  | d, .mk k n s t l => d ≤ 4 ∧ polHead (.mk k n s t l) ∧ deepsP (d + 1) l
def deepsP : Int → List Pol → Prop
  | _, [] => True
  | d, p :: ps => deepP d p ∧ deepsP d ps
end
theorem deepsP_iff : ∀ {l : List Pol} {d : Int}, deepsP d l ↔ ∀ x ∈ l, deepP d x
  | [], d => by simp [deepsP]
  | p :: ps, d => by simp only [deepsP, List.mem_cons, forall_eq_or_imp, deepsP_iff (l := ps)]
theorem deepP_iff {d : Int} {x : Pol} : deepP d x ↔ d ≤ 4 ∧ polHead x ∧ ∀ y ∈ x.l, deepP (d + 1) y := by
  cases x with
  | mk k n s t l => rw [← deepsP_iff]; simp only [deepP, Pol.l]

theorem s_spec_l5Deep (p : Pol) : Cel.ok p → ∀ {h : AH} {d : Int} {v : AV} {F : List Nat}, 0 ≤ d → SlRep h v p.l F → RCalls Try.prog n_spec_l5Deep [.agg (p.cs v), .int .i64 d] h (.bool (bp (deepP d p))) := by
  refine pol_ind (p := fun p => Cel.ok p → ∀ {h : AH} {d : Int} {v : AV} {F : List Nat}, 0 ≤ d → SlRep h v p.l F → RCalls Try.prog n_spec_l5Deep [.agg (p.cs v), .int .i64 d] h (.bool (bp (deepP d p)))) ?_ p
  intro p ih ok h d v F hd r
  refine reader (c_spec_l5Deep _ _) (by simp only [old]) ?_
  unfold p_spec_l5Deep
  have hsm := r.small
  obtain ⟨-, -, okl⟩ := pol_ok ok
  (repeat' first|refine vs ?_|(refine br ?_ ?_<;>intro _<;>try(exfalso;first|omega|contradiction))|((with_reducible refine g_callf n_spec_l5One ?_);(refine aw_rcall_b (s_spec_l5One ok slr_auto) ?_ ?_ <;> intro hn <;> first | replace hn := bp_true hn | replace hn := bp_false hn))|((with_reducible refine g_idx ?_);((first|refine ix ?_|refine ixi ?_|(refine ixg ?_;intro _ _)|(refine ixgi ?_;intro _ _));first|rintro _ _ _ _ _ ⟨rfl,rfl⟩ _|rintro _ _ _ _ _ ⟨_,rfl,_⟩ _|rintro _ _ _ _ _ ⟨_,_,_,_,rfl,rfl,_,_⟩ _|intro _ _ _ _ _ _ _))|(refine sx ?_;intro _ _)|((with_reducible refine g_awp ?_);simp only [g0,g1,g2]))
  all_goals first
    | (refine pf ?_; rw [deepP_iff]; rintro ⟨a1, a2, a3⟩; first | contradiction | omega)
    | skip
  refine aw_upto p.l.length (fun i vs h1 => vs = [.int .i64 (i : Int)] ∧ i ≤ p.l.length ∧ Ext (h.push ⟨p.cs v, 0, 0⟩) h1 ∧ Upto p.l (fun _ x => deepP (d + 1) x) i) ⟨rfl, Nat.zero_le _, ext_auto, up0⟩ ?_
  rintro i vs h1 _ ⟨rfl, hi, e1, hu⟩
  simp only [g0]
  refine vs ?_
  refine br (fun hlt => ?_) (fun hge => ?_)
  · obtain ⟨x, hx, -, -⟩ := drop_step (show i < p.l.length by omega)
    have hm := List.mem_of_getElem? hx
    refine vs ?_
    refine aw_idx r hx rfl ?_
    intro bb o cs Fi aa q _
    rw [Pol.rep_iff] at q
    obtain ⟨w, rfl, q⟩ := q
    have s_spec_l5Deep := @ih x hm (okl x hm)
    (repeat' first|refine vs ?_|(refine br ?_ ?_<;>intro _<;>try(exfalso;first|omega|contradiction))|((with_reducible refine g_callf n_spec_l5Deep ?_);(refine aw_rcall_b (s_spec_l5Deep om_auto slr_auto) ?_ ?_ <;> intro hd2 <;> first | replace hd2 := bp_true hd2 | replace hd2 := bp_false hd2))|((with_reducible refine g_idx ?_);((first|refine ix ?_|refine ixi ?_|(refine ixg ?_;intro _ _)|(refine ixgi ?_;intro _ _));first|rintro _ _ _ _ _ ⟨rfl,rfl⟩ _|rintro _ _ _ _ _ ⟨_,rfl,_⟩ _|rintro _ _ _ _ _ ⟨_,_,_,_,rfl,rfl,_,_⟩ _|intro _ _ _ _ _ _ _))|(refine sx ?_;intro _ _)|((with_reducible refine g_awp ?_);simp only [g0,g1,g2]))
    · exact ⟨by omega, rfl, by omega, ext_auto, upS hu hx hd2⟩
    · refine pf ?_
      rw [deepP_iff]
      rintro ⟨a1, a2, a3⟩
      exact hd2 (a3 x hm)
  · (repeat' first|refine vs ?_|(refine br ?_ ?_<;>intro _<;>try(exfalso;first|omega|contradiction))|((with_reducible refine g_idx ?_);((first|refine ix ?_|refine ixi ?_|(refine ixg ?_;intro _ _)|(refine ixgi ?_;intro _ _));first|rintro _ _ _ _ _ ⟨rfl,rfl⟩ _|rintro _ _ _ _ _ ⟨_,rfl,_⟩ _|rintro _ _ _ _ _ ⟨_,_,_,_,rfl,rfl,_,_⟩ _|intro _ _ _ _ _ _ _))|(refine sx ?_;intro _ _)|((with_reducible refine g_awp ?_);simp only [g0,g1,g2]))
    rw [show i = p.l.length by omega] at hu
    refine pt ?_
    rw [deepP_iff]
    exact ⟨by omega, hn, upAll hu⟩

noncomputable def parts (d : Int) (p : Pol) : Int := if bp (deepP d p ∧ cntP p ≤ 12) = true then cntP p else 13
theorem parts_y {d : Int} {p : Pol} (h1 : deepP d p) (h2 : cntP p ≤ 12) : parts d p = cntP p := by unfold parts; rw [if_pos (bp_t ⟨h1, h2⟩)]
theorem parts_n {d : Int} {p : Pol} (h : ¬ (deepP d p ∧ cntP p ≤ 12)) : parts d p = 13 := by unfold parts; rw [bp_f h, if_neg (by decide)]
theorem parts_c (d : Int) (p : Pol) : (parts d p = cntP p ∧ deepP d p ∧ cntP p ≤ 12) ∨ (parts d p = 13 ∧ ¬ (deepP d p ∧ cntP p ≤ 12)) := by
  by_cases h : deepP d p ∧ cntP p ≤ 12
  · exact .inl ⟨parts_y h.1 h.2, h⟩
  · exact .inr ⟨parts_n h, h⟩
theorem s_impl_polParts (p : Pol) : Cel.ok p → ∀ {h : AH} {d : Int} {v : AV} {F : List Nat}, 0 ≤ d → SlRep h v p.l F → RCalls Try.prog n_impl_polParts [.agg (p.cs v), .int .i64 d] h (.int .i64 (parts d p)) := by
  refine pol_ind (p := fun p => Cel.ok p → ∀ {h : AH} {d : Int} {v : AV} {F : List Nat}, 0 ≤ d → SlRep h v p.l F → RCalls Try.prog n_impl_polParts [.agg (p.cs v), .int .i64 d] h (.int .i64 (parts d p))) ?_ p
  intro p ih ok h d v F hd r
  refine reader (c_impl_polParts _ _) (by simp only [old]) ?_
  unfold p_impl_polParts
  have hsm := r.small
  obtain ⟨-, -, okl⟩ := pol_ok ok
  (repeat' first|refine vs ?_|(refine br ?_ ?_<;>intro _<;>try(exfalso;first|omega|contradiction))|((with_reducible refine g_callf n_impl_polHeadOk ?_);(refine aw_rcall_b (s_impl_polHeadOk ok slr_auto) ?_ ?_ <;> intro hn <;> first | replace hn := bp_true hn | replace hn := bp_false hn))|((with_reducible refine g_idx ?_);((first|refine ix ?_|refine ixi ?_|(refine ixg ?_;intro _ _)|(refine ixgi ?_;intro _ _));first|rintro _ _ _ _ _ ⟨rfl,rfl⟩ _|rintro _ _ _ _ _ ⟨_,rfl,_⟩ _|rintro _ _ _ _ _ ⟨_,_,_,_,rfl,rfl,_,_⟩ _|intro _ _ _ _ _ _ _))|(refine sx ?_;intro _ _)|((with_reducible refine g_awp ?_);simp only [g0,g1,g2]))
  all_goals first
    | (refine pi (parts_n ?_).symm; rw [deepP_iff]; rintro ⟨⟨a1, a2, a3⟩, a4⟩; first | contradiction | omega)
    | skip
  refine aw_upto p.l.length (fun i vs h1 => vs = [.int .i64 (1 + sumI cntP (p.l.take i)), .int .i64 (i : Int)] ∧ i ≤ p.l.length ∧ Ext (h.push ⟨p.cs v, 0, 0⟩) h1 ∧ Upto p.l (fun _ x => deepP (d + 1) x) i ∧ 1 + sumI cntP (p.l.take i) ≤ 12) ⟨rfl, Nat.zero_le _, ext_auto, up0, by simp [sumI]⟩ ?_
  rintro i vs h1 _ ⟨rfl, hi, e1, hu, hc⟩
  simp only [g0, g1]
  refine br (fun hlt => ?_) (fun hge => ?_)
  · obtain ⟨x, hx, -, ht⟩ := drop_step (show i < p.l.length by omega)
    have hm := List.mem_of_getElem? hx
    have h6 := cntP_b x
    have h7 := cnt_take p.l i
    have h8 := cnt_take p.l (i + 1)
    rw [sumI_take _ ht] at h8
    have h9 := cntP_eq p
    have h10 := parts_c (d + 1) x
    refine vs ?_
    refine aw_idx r hx rfl ?_
    intro bb o cs Fi aa q _
    rw [Pol.rep_iff] at q
    obtain ⟨w, rfl, q⟩ := q
    have s_impl_polParts := @ih x hm (okl x hm)
    (repeat' first|refine vs ?_|(refine br ?_ ?_<;>intro _<;>try(exfalso;first|omega|contradiction))|((with_reducible refine g_callf n_impl_polParts ?_);refine aw_rcall (s_impl_polParts om_auto slr_auto) ?_)|((with_reducible refine g_idx ?_);((first|refine ix ?_|refine ixi ?_|(refine ixg ?_;intro _ _)|(refine ixgi ?_;intro _ _));first|rintro _ _ _ _ _ ⟨rfl,rfl⟩ _|rintro _ _ _ _ _ ⟨_,rfl,_⟩ _|rintro _ _ _ _ _ ⟨_,_,_,_,rfl,rfl,_,_⟩ _|intro _ _ _ _ _ _ _))|(refine sx ?_;intro _ _)|((with_reducible refine g_awp ?_);simp only [g0,g1,g2]))
    · refine pi (parts_n ?_).symm
      rw [deepP_iff]
      rintro ⟨⟨a1, a2, a3⟩, a4⟩
      have := a3 x hm
      rcases h10 with ⟨b1, b2, b3⟩ | ⟨b1, b2⟩
      · omega
      · exact b2 ⟨this, by omega⟩
    · rcases h10 with ⟨b1, b2, b3⟩ | ⟨b1, b2⟩
      · exact ⟨by omega, by rw [sumI_take _ ht, Int.add_assoc, b1], by omega, ext_auto, upS hu hx b2, by rw [sumI_take _ ht]; omega⟩
      · exfalso; omega
  · (repeat' first|refine vs ?_|(refine br ?_ ?_<;>intro _<;>try(exfalso;first|omega|contradiction))|((with_reducible refine g_idx ?_);((first|refine ix ?_|refine ixi ?_|(refine ixg ?_;intro _ _)|(refine ixgi ?_;intro _ _));first|rintro _ _ _ _ _ ⟨rfl,rfl⟩ _|rintro _ _ _ _ _ ⟨_,rfl,_⟩ _|rintro _ _ _ _ _ ⟨_,_,_,_,rfl,rfl,_,_⟩ _|intro _ _ _ _ _ _ _))|(refine sx ?_;intro _ _)|((with_reducible refine g_awp ?_);simp only [g0,g1,g2]))
    have e : i = p.l.length := by omega
    rw [e, List.take_length] at hc
    rw [e] at hu
    have h9 := cntP_eq p
    rw [e, List.take_length, ← h9]
    refine pi (parts_y ?_ (by omega)).symm
    rw [deepP_iff]
    exact ⟨by omega, hn, upAll hu⟩

def polOk (p : Pol) : Prop := deepP 1 p ∧ cntP p ≤ 12
theorem s_impl_PolOk {h : AH} {p : Pol} {v : AV} {F : List Nat} (ok : Cel.ok p) (r : SlRep h v p.l F) : RCalls Try.prog n_impl_PolOk [.agg (p.cs v)] h (.bool (bp (polOk p))) := by
  refine reader (c_impl_PolOk _) (by simp only [old]) ?_
  unfold p_impl_PolOk
  have h10 := parts_c 1 p
  (repeat' first|refine vs ?_|(refine br ?_ ?_<;>intro _<;>try(exfalso;first|omega|contradiction))|((with_reducible refine g_callf n_impl_polParts ?_);refine aw_rcall (s_impl_polParts p ok om_auto slr_auto) ?_)|((with_reducible refine g_idx ?_);((first|refine ix ?_|refine ixi ?_|(refine ixg ?_;intro _ _)|(refine ixgi ?_;intro _ _));first|rintro _ _ _ _ _ ⟨rfl,rfl⟩ _|rintro _ _ _ _ _ ⟨_,rfl,_⟩ _|rintro _ _ _ _ _ ⟨_,_,_,_,rfl,rfl,_,_⟩ _|intro _ _ _ _ _ _ _))|(refine sx ?_;intro _ _)|((with_reducible refine g_awp ?_);simp only [g0,g1,g2]))
  · rcases h10 with ⟨b1, b2, b3⟩ | ⟨b1, b2⟩
    · exact pt ⟨b2, b3⟩
    · exfalso; omega
  · rcases h10 with ⟨b1, b2, b3⟩ | ⟨b1, b2⟩
    · exfalso; omega
    · exact pf b2
theorem s_spec_PolOk {h : AH} {p : Pol} {v : AV} {F : List Nat} (ok : Cel.ok p) (hs : Sz.sz p ≤ 1048576) (r : SlRep h v p.l F) : RCalls Try.prog n_spec_PolOk [.agg (p.cs v)] h (.bool (bp (polOk p))) := by
  refine reader (c_spec_PolOk _) (by simp only [old]) ?_
  unfold p_spec_PolOk
  (repeat' first|refine vs ?_|(refine br ?_ ?_<;>intro _<;>try(exfalso;first|omega|contradiction))|((with_reducible refine g_callf n_spec_PolCount ?_);refine aw_rcall (s_spec_PolCount p hs slr_auto) ?_)|((with_reducible refine g_callf n_spec_l5Deep ?_);(refine aw_rcall_b (s_spec_l5Deep p ok om_auto slr_auto) ?_ ?_ <;> intro hn <;> first | replace hn := bp_true hn | replace hn := bp_false hn))|((with_reducible refine g_idx ?_);((first|refine ix ?_|refine ixi ?_|(refine ixg ?_;intro _ _)|(refine ixgi ?_;intro _ _));first|rintro _ _ _ _ _ ⟨rfl,rfl⟩ _|rintro _ _ _ _ _ ⟨_,rfl,_⟩ _|rintro _ _ _ _ _ ⟨_,_,_,_,rfl,rfl,_,_⟩ _|intro _ _ _ _ _ _ _))|(refine sx ?_;intro _ _)|((with_reducible refine g_awp ?_);simp only [g0,g1,g2]))
  all_goals first
    | exact pt ⟨by assumption, by assumption⟩
    | exact pf fun k => by obtain ⟨a1, a2⟩ := k; first | contradiction | omega

def confOk (c : Conf) : Prop := (1 ≤ c.stripes ∧ c.stripes ≤ 3) ∧ (1 ≤ c.wait ∧ c.wait ≤ 50) ∧ (1 ≤ c.budget ∧ c.budget ≤ 190) ∧ (1 ≤ c.cache ∧ c.cache ≤ 6) ∧ (1 ≤ c.queue ∧ c.queue ≤ 4) ∧ (0 ≤ c.rate ∧ c.rate ≤ 99) ∧ (0 ≤ c.burst ∧ c.burst ≤ 999) ∧ polOk c.rule
theorem s_impl_ConfOk {h : AH} {c : Conf} {v : AV} {F : List Nat} (ok : Cel.ok c.rule) (r : SlRep h v c.rule.l F) : RCalls Try.prog n_impl_ConfOk [.agg (c.cs v)] h (.bool (bp (confOk c))) := by
  refine reader (c_impl_ConfOk _) (by simp only [old]) ?_
  unfold p_impl_ConfOk
  (repeat' first|refine vs ?_|(refine br ?_ ?_<;>intro _<;>try(exfalso;first|omega|contradiction))|((with_reducible refine g_callf n_impl_within ?_);(refine aw_rcall_b s_impl_within ?_ ?_ <;> intro hb <;> first | replace hb := inB_t hb | replace hb := inB_f hb))|((with_reducible refine g_callf n_impl_PolOk ?_);(refine aw_rcall_b (s_impl_PolOk (p := c.rule) ok slr_auto) ?_ ?_ <;> intro hn <;> first | replace hn := bp_true hn | replace hn := bp_false hn))|((with_reducible refine g_idx ?_);((first|refine ix ?_|refine ixi ?_|(refine ixg ?_;intro _ _)|(refine ixgi ?_;intro _ _));first|rintro _ _ _ _ _ ⟨rfl,rfl⟩ _|rintro _ _ _ _ _ ⟨_,rfl,_⟩ _|rintro _ _ _ _ _ ⟨_,_,_,_,rfl,rfl,_,_⟩ _|intro _ _ _ _ _ _ _))|(refine sx ?_;intro _ _)|((with_reducible refine g_awp ?_);simp only [g0,g1,g2]))
  all_goals first
    | exact pt ⟨by omega, by omega, by omega, by omega, by omega, by omega, by omega, by assumption⟩
    | exact pf fun k => by obtain ⟨a1, a2, a3, a4, a5, a6, a7, a8⟩ := k; first | contradiction | omega
theorem s_spec_ConfOk {h : AH} {c : Conf} {v : AV} {F : List Nat} (ok : Cel.ok c.rule) (hs : Sz.sz c ≤ 1048576) (r : SlRep h v c.rule.l F) : RCalls Try.prog n_spec_ConfOk [.agg (c.cs v)] h (.bool (bp (confOk c))) := by
  refine reader (c_spec_ConfOk _) (by simp only [old]) ?_
  unfold p_spec_ConfOk
  (repeat' first|refine vs ?_|(refine br ?_ ?_<;>intro _<;>try(exfalso;first|omega|contradiction))|((with_reducible refine g_callf n_spec_l1In ?_);(refine aw_rcall_b s_spec_l1In ?_ ?_ <;> intro hb <;> first | replace hb := inB_t hb | replace hb := inB_f hb))|((with_reducible refine g_callf n_spec_PolOk ?_);(refine aw_rcall_b (s_spec_PolOk (p := c.rule) ok hs slr_auto) ?_ ?_ <;> intro hn <;> first | replace hn := bp_true hn | replace hn := bp_false hn))|((with_reducible refine g_idx ?_);((first|refine ix ?_|refine ixi ?_|(refine ixg ?_;intro _ _)|(refine ixgi ?_;intro _ _));first|rintro _ _ _ _ _ ⟨rfl,rfl⟩ _|rintro _ _ _ _ _ ⟨_,rfl,_⟩ _|rintro _ _ _ _ _ ⟨_,_,_,_,rfl,rfl,_,_⟩ _|intro _ _ _ _ _ _ _))|(refine sx ?_;intro _ _)|((with_reducible refine g_awp ?_);simp only [g0,g1,g2]))
  all_goals first
    | exact pt ⟨by omega, by omega, by omega, by omega, by omega, by omega, by omega, by assumption⟩
    | exact pf fun k => by obtain ⟨a1, a2, a3, a4, a5, a6, a7, a8⟩ := k; first | contradiction | omega
end Go.Proofs.Ytienckhjfcplcaa
