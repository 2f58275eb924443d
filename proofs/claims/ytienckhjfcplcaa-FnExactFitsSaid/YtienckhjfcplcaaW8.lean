
/- Stripes of trails; which trails may be; what fits. -/
import Derived.Test.YtienckhjfcplcaaW5
set_option linter.unusedSimpArgs false
set_option linter.unusedVariables false
set_option maxHeartbeats 1000000
namespace Go.Proofs.Ytienckhjfcplcaa
open Go Go.Ab
section
/- impl.Mix -/
def p_impl_Mix (x0 : AV) : Prog := .op (.bin 0 .and x0 (AV.int .i64 65535)) fun v => .op (.bin 0 .shl v (AV.int .u64 7)) fun v_1 => .op (.bin 0 .and v_1 (AV.int .i64 65535)) fun v_2 => .op (.bin 0 .xor v v_2) fun v => .op (.bin 0 .shr v (AV.int .u64 9)) fun v_3 => .op (.bin 0 .xor v v_3) fun v => .op (.bin 0 .shl v (AV.int .u64 8)) fun v_4 => .op (.bin 0 .and v_4 (AV.int .i64 65535)) fun v_5 => .op (.bin 0 .xor v v_5) fun v => .fin [.val v]
theorem c_impl_Mix (x0 : AV) {h : AH} {R : AV → AH → Prop} (g : (p_impl_Mix x0).awp Try.prog h fun t vs h' => t = 1 ∧ ∃ v, vs = [v] ∧ R v h') : ACalls Try.prog n_impl_Mix [x0] h R :=
  acalls_of follows Try.func130 (by kernel_rfl) (by kernel_rfl) [] (fun _ => []) (show trF Try.prog Try.f130 _ _ [x0] = p_impl_Mix x0 by kernel_rfl) g
/- spec.Mix -/
def p_spec_Mix (x0 : AV) : Prog := .op (.bin 0 .and x0 (AV.int .i64 65535)) fun v => .op (.bin 0 .shl v (AV.int .u64 7)) fun v_1 => .op (.bin 0 .xor v v_1) fun v => .op (.bin 0 .and v (AV.int .i64 65535)) fun v => .op (.bin 0 .shr v (AV.int .u64 9)) fun v_2 => .op (.bin 0 .xor v v_2) fun v => .op (.bin 0 .shl v (AV.int .u64 8)) fun v_3 => .op (.bin 0 .xor v v_3) fun v => .op (.bin 0 .and v (AV.int .i64 65535)) fun v => .fin [.val v]
theorem c_spec_Mix (x0 : AV) {h : AH} {R : AV → AH → Prop} (g : (p_spec_Mix x0).awp Try.prog h fun t vs h' => t = 1 ∧ ∃ v, vs = [v] ∧ R v h') : ACalls Try.prog n_spec_Mix [x0] h R :=
  acalls_of follows Try.func129 (by kernel_rfl) (by kernel_rfl) [] (fun _ => []) (show trF Try.prog Try.f129 _ _ [x0] = p_spec_Mix x0 by kernel_rfl) g
/- impl.StripeOf -/
def p_impl_StripeOf (x0 x1 : AV) : Prog := .op (.bin 0 .lss x1 (AV.int .i64 1)) fun v => .ite v (.fin [.val (AV.int .i64 0)]) (.op (.call n_impl_Mix [x0]) fun v => .op (.bin 0 .rem v x1) fun v => .fin [.val v])
theorem c_impl_StripeOf (x0 x1 : AV) {h : AH} {R : AV → AH → Prop} (g : (p_impl_StripeOf x0 x1).awp Try.prog h fun t vs h' => t = 1 ∧ ∃ v, vs = [v] ∧ R v h') : ACalls Try.prog n_impl_StripeOf [x0, x1] h R :=
  acalls_of follows Try.func79 (by kernel_rfl) (by kernel_rfl) [] (fun _ => []) (show trF Try.prog Try.f79 _ _ [x0, x1] = p_impl_StripeOf x0 x1 by kernel_rfl) g
/- spec.StripeOf -/
def p_spec_StripeOf (x0 x1 : AV) : Prog := .op (.bin 0 .lss x1 (AV.int .i64 1)) fun v => .ite v (.fin [.val (AV.int .i64 0)]) (.op (.call n_spec_Mix [x0]) fun v => .op (.bin 0 .rem v x1) fun v => .fin [.val v])
theorem c_spec_StripeOf (x0 x1 : AV) {h : AH} {R : AV → AH → Prop} (g : (p_spec_StripeOf x0 x1).awp Try.prog h fun t vs h' => t = 1 ∧ ∃ v, vs = [v] ∧ R v h') : ACalls Try.prog n_spec_StripeOf [x0, x1] h R :=
  acalls_of follows Try.func78 (by kernel_rfl) (by kernel_rfl) [] (fun _ => []) (show trF Try.prog Try.f78 _ _ [x0, x1] = p_spec_StripeOf x0 x1 by kernel_rfl) g
/- impl.HoldsStripe -/
def p_impl_HoldsStripe (x0 x1 : AV) : Prog := .op (.box x0) fun v => .op (.bin 0 .lss x1 (AV.int .i64 1)) fun v_1 => .ite v_1 (.fin [.val (AV.int .i64 (-1))]) (.op (.fad 0 v) fun v_2 => .op (.ld1 v_2) fun v_3 => .op (.bin 0 .eql v_3 (AV.int .i64 1)) fun v_4 => .gop v_4 true (.fad 1 v) fun v_5 => .gop v_4 true (.ld1 v_5) fun v_6 => .gop v_4 true (.bin 0 .eql v_6 (AV.int .i64 1)) fun v_7 => .op (.pick v_4 v_7 (AV.bool false)) fun v_8 => .ite v_8 (.op (.fad 2 v) fun v => .op (.fad 0 v) fun v => .op (.ld1 v) fun v => .op (.call n_impl_StripeOf [v, x1]) fun v => .fin [.val v]) (.op (.fad 0 v) fun v_9 => .op (.ld1 v_9) fun v_10 => .op (.bin 0 .eql v_10 (AV.int .i64 1)) fun v_11 => .gop v_11 true (.fad 1 v) fun v_12 => .gop v_11 true (.ld1 v_12) fun v_13 => .gop v_11 true (.bin 0 .eql v_13 (AV.int .i64 3)) fun v_14 => .op (.pick v_11 v_14 (AV.bool false)) fun v_15 => .scope (.ite v_15 (.leaf 0 [v_15]) (.op (.fad 0 v) fun v_16 => .op (.ld1 v_16) fun v_17 => .op (.bin 0 .eql v_17 (AV.int .i64 2)) fun v_18 => .gop v_18 true (.fad 1 v) fun v_19 => .gop v_18 true (.ld1 v_19) fun v_20 => .gop v_18 true (.bin 0 .eql v_20 (AV.int .i64 1)) fun v_21 => .gop v_18 true (.mv v_21) fun v_22 => .gop v_22 false (.fad 1 v) fun v => .gop v_22 false (.ld1 v) fun v => .gop v_22 false (.bin 0 .eql v (AV.int .i64 2)) fun v => .gop v_18 true (.pick v_22 (AV.bool true) v) fun v => .op (.pick v_18 v (AV.bool false)) fun v => .leaf 0 [v])) (fun vs => .ite (g vs 0) (.op (.fad 8 v) fun v => .op (.ld1 v) fun v => .op (.call n_impl_StripeOf [v, x1]) fun v => .fin [.val v]) (.fin [.val (AV.int .i64 (-1))])) fun t vs => tsel t 1 (.leaf 1 vs) .bad))
theorem c_impl_HoldsStripe (x0 x1 : AV) {h : AH} {R : AV → AH → Prop} (g : (p_impl_HoldsStripe x0 x1).awp Try.prog h fun t vs h' => t = 1 ∧ ∃ v, vs = [v] ∧ R v h') : ACalls Try.prog n_impl_HoldsStripe [x0, x1] h R :=
  acalls_of follows Try.func23 (by kernel_rfl) (by kernel_rfl) [1, 2, 22] (fun _ => []) (show trF Try.prog Try.f23 _ _ [x0, x1] = p_impl_HoldsStripe x0 x1 by kernel_rfl) g
/- spec.HoldsStripe -/
def p_spec_HoldsStripe (x0 x1 : AV) : Prog := .op (.box x0) fun v => .op (.bin 0 .lss x1 (AV.int .i64 1)) fun v_1 => .ite v_1 (.fin [.val (AV.int .i64 (-1))]) (.op (.fad 0 v) fun v_2 => .op (.ld1 v_2) fun v_3 => .op (.bin 0 .eql v_3 (AV.int .i64 1)) fun v_4 => .gop v_4 true (.fad 1 v) fun v_5 => .gop v_4 true (.ld1 v_5) fun v_6 => .gop v_4 true (.bin 0 .eql v_6 (AV.int .i64 1)) fun v_7 => .op (.pick v_4 v_7 (AV.bool false)) fun v_8 => .ite v_8 (.op (.fad 2 v) fun v => .op (.fad 0 v) fun v => .op (.ld1 v) fun v => .op (.call n_spec_StripeOf [v, x1]) fun v => .fin [.val v]) (.op (.fad 0 v) fun v_9 => .op (.ld1 v_9) fun v_10 => .op (.bin 0 .eql v_10 (AV.int .i64 1)) fun v_11 => .gop v_11 true (.fad 1 v) fun v_12 => .gop v_11 true (.ld1 v_12) fun v_13 => .gop v_11 true (.bin 0 .eql v_13 (AV.int .i64 3)) fun v_14 => .op (.pick v_11 v_14 (AV.bool false)) fun v_15 => .scope (.ite v_15 (.leaf 0 [v_15]) (.op (.fad 0 v) fun v_16 => .op (.ld1 v_16) fun v_17 => .op (.bin 0 .eql v_17 (AV.int .i64 2)) fun v_18 => .gop v_18 true (.fad 1 v) fun v_19 => .gop v_18 true (.ld1 v_19) fun v_20 => .gop v_18 true (.bin 0 .eql v_20 (AV.int .i64 1)) fun v_21 => .gop v_18 true (.mv v_21) fun v_22 => .gop v_22 false (.fad 1 v) fun v => .gop v_22 false (.ld1 v) fun v => .gop v_22 false (.bin 0 .eql v (AV.int .i64 2)) fun v => .gop v_18 true (.pick v_22 (AV.bool true) v) fun v => .op (.pick v_18 v (AV.bool false)) fun v => .leaf 0 [v])) (fun vs => .ite (g vs 0) (.op (.fad 8 v) fun v => .op (.ld1 v) fun v => .op (.call n_spec_StripeOf [v, x1]) fun v => .fin [.val v]) (.fin [.val (AV.int .i64 (-1))])) fun t vs => tsel t 1 (.leaf 1 vs) .bad))
theorem c_spec_HoldsStripe (x0 x1 : AV) {h : AH} {R : AV → AH → Prop} (g : (p_spec_HoldsStripe x0 x1).awp Try.prog h fun t vs h' => t = 1 ∧ ∃ v, vs = [v] ∧ R v h') : ACalls Try.prog n_spec_HoldsStripe [x0, x1] h R :=
  acalls_of follows Try.func21 (by kernel_rfl) (by kernel_rfl) [1, 2, 21] (fun _ => []) (show trF Try.prog Try.f21 _ _ [x0, x1] = p_spec_HoldsStripe x0 x1 by kernel_rfl) g
/- impl.TrailOk -/
def p_impl_TrailOk (x0 : AV) : Prog := .op (.box x0) fun v => .op (.fad 3 v) fun v_1 => .op (.ld1 v_1) fun v_2 => .op (.len 0 v_2) fun v_3 => .loop [AV.int .i64 0] (fun vs => .op (.bin 0 .lss (g vs 0) v_3) fun v_4 => .ite v_4 (.op (.idx 6 v_2 (g vs 0)) fun v_5 => .op (.ldn 6 v_5) fun v_6 => .op (.alloc [AV.int .i64 0, AV.int .i64 0, AV.int .i64 0, AV.int .i64 0, AV.bool false, AV.nils]) fun v_7 => .op (.st 6 v_7 v_6) fun v_8 => .op (.ldn 6 v_7) fun v_9 => .op (.call n_impl_SpanOk [v_9]) fun v_10 => .op (.una .not v_10) fun v_11 => .gop v_11 false (.fad 0 v_7) fun v_12 => .gop v_11 false (.ld1 v_12) fun v_13 => .gop v_11 false (.fad 0 v) fun v => .gop v_11 false (.ld1 v) fun v => .gop v_11 false (.bin 0 .neq v_13 v) fun v => .op (.pick v_11 (AV.bool true) v) fun v => .ite v (.fin [.val (AV.bool false)]) (.op (.bin 0 .add (g vs 0) (AV.int .i64 1)) fun v => .leaf 0 [v])) (.leaf 2 [g vs 0])) fun t vs => tsel t 1 (.leaf 1 vs) (tsel t 2 (.op (.fad 0 v) fun v_4 => .op (.ld1 v_4) fun v_5 => .op (.call n_impl_within [v_5, AV.int .i64 1, AV.int .i64 999]) fun v_6 => .gop v_6 true (.fad 1 v) fun v_7 => .gop v_6 true (.ld1 v_7) fun v_8 => .gop v_6 true (.bin 0 .geq v_8 (AV.int .i64 1)) fun v_9 => .op (.pick v_6 v_9 (AV.bool false)) fun v_10 => .gop v_10 true (.fad 2 v) fun v_11 => .gop v_10 true (.ld1 v_11) fun v_12 => .gop v_10 true (.call n_impl_within [v_12, AV.int .i64 0, AV.int .i64 2147483647]) fun v_13 => .op (.pick v_10 v_13 (AV.bool false)) fun v_14 => .gop v_14 true (.fad 3 v) fun v => .gop v_14 true (.ld1 v) fun v => .gop v_14 true (.len 0 v) fun v => .gop v_14 true (.bin 0 .gtr v (AV.int .i64 0)) fun v => .op (.pick v_14 v (AV.bool false)) fun v => .fin [.val v]) .bad)
theorem c_impl_TrailOk (x0 : AV) {h : AH} {R : AV → AH → Prop} (g : (p_impl_TrailOk x0).awp Try.prog h fun t vs h' => t = 1 ∧ ∃ v, vs = [v] ∧ R v h') : ACalls Try.prog n_impl_TrailOk [x0] h R :=
  acalls_of follows Try.func28 (by kernel_rfl) (by kernel_rfl) [1, 6, 7, 8] (fun _ => []) (show trF Try.prog Try.f28 _ _ [x0] = p_impl_TrailOk x0 by kernel_rfl) g
/- spec.TrailOk -/
def p_spec_TrailOk (x0 : AV) : Prog := .op (.box x0) fun v => .loop [AV.int .i64 0] (fun vs => .op (.fad 3 v) fun v_1 => .op (.ld1 v_1) fun v_2 => .op (.len 0 v_2) fun v_3 => .op (.bin 0 .lss (g vs 0) v_3) fun v_4 => .ite v_4 (.op (.fad 3 v) fun v_5 => .op (.ld1 v_5) fun v_6 => .op (.idx 6 v_6 (g vs 0)) fun v_7 => .op (.ldn 6 v_7) fun v_8 => .op (.call n_spec_SpanOk [v_8]) fun v_9 => .op (.una .not v_9) fun v_10 => .gop v_10 false (.fad 3 v) fun v_11 => .gop v_10 false (.ld1 v_11) fun v_12 => .gop v_10 false (.mv (g vs 0)) fun v_13 => .gop v_10 false (.idx 6 v_12 v_13) fun v_14 => .gop v_10 false (.fad 0 v_14) fun v_15 => .gop v_10 false (.ld1 v_15) fun v_16 => .gop v_10 false (.fad 0 v) fun v => .gop v_10 false (.ld1 v) fun v => .gop v_10 false (.bin 0 .neq v_16 v) fun v => .op (.pick v_10 (AV.bool true) v) fun v => .ite v (.fin [.val (AV.bool false)]) (.op (.bin 0 .add (g vs 0) (AV.int .i64 1)) fun v => .leaf 0 [v])) (.leaf 2 [g vs 0])) fun t vs => tsel t 1 (.leaf 1 vs) (tsel t 2 (.op (.fad 0 v) fun v_1 => .op (.ld1 v_1) fun v_2 => .op (.call n_spec_l1In [v_2, AV.int .i64 1, AV.int .i64 999]) fun v_3 => .gop v_3 true (.fad 1 v) fun v_4 => .gop v_3 true (.ld1 v_4) fun v_5 => .gop v_3 true (.bin 0 .geq v_5 (AV.int .i64 1)) fun v_6 => .op (.pick v_3 v_6 (AV.bool false)) fun v_7 => .gop v_7 true (.fad 2 v) fun v_8 => .gop v_7 true (.ld1 v_8) fun v_9 => .gop v_7 true (.call n_spec_l1In [v_9, AV.int .i64 0, AV.int .i64 2147483647]) fun v_10 => .op (.pick v_7 v_10 (AV.bool false)) fun v_11 => .gop v_11 true (.fad 3 v) fun v => .gop v_11 true (.ld1 v) fun v => .gop v_11 true (.len 0 v) fun v => .gop v_11 true (.bin 0 .geq v (AV.int .i64 1)) fun v => .op (.pick v_11 v (AV.bool false)) fun v => .fin [.val v]) .bad)
theorem c_spec_TrailOk (x0 : AV) {h : AH} {R : AV → AH → Prop} (g : (p_spec_TrailOk x0).awp Try.prog h fun t vs h' => t = 1 ∧ ∃ v, vs = [v] ∧ R v h') : ACalls Try.prog n_spec_TrailOk [x0] h R :=
  acalls_of follows Try.func26 (by kernel_rfl) (by kernel_rfl) [1, 3] (fun r => if r = 4 then [(0, []), (1, []), (2, []), (3, []), (4, []), (5, []), (6, []), (7, []), (8, []), (9, []), (10, []), (11, []), (12, []), (13, []), (14, []), (15, []), (16, []), (17, [])] else []) (show trF Try.prog Try.f26 _ _ [x0] = p_spec_TrailOk x0 by kernel_rfl) g
/- impl.Fits -/
def p_impl_Fits (x0 x1 : AV) : Prog := .op (.box x0) fun v => .op (.box x1) fun v_1 => .op (.ldn 6 v_1) fun v_2 => .op (.call n_impl_SpanOk [v_2]) fun v_3 => .gop v_3 true (.ldn 6 v_1) fun v_4 => .gop v_3 true (.fad 2 v) fun v => .gop v_3 true (.ld1 v) fun v_5 => .gop v_3 true (.call n_impl_SizeOf [v_4]) fun v_6 => .gchk v_3 true (.ld1 v) v_5 (.gop v_3 true (.bin 0 .leq v_6 v_5) fun v => .op (.pick v_3 v (AV.bool false)) fun v => .fin [.val v])
theorem c_impl_Fits (x0 x1 : AV) {h : AH} {R : AV → AH → Prop} (g : (p_impl_Fits x0 x1).awp Try.prog h fun t vs h' => t = 1 ∧ ∃ v, vs = [v] ∧ R v h') : ACalls Try.prog n_impl_Fits [x0, x1] h R :=
  acalls_of follows Try.func42 (by kernel_rfl) (by kernel_rfl) [] (fun r => if r = 1 then [(0, []), (1, []), (2, []), (3, []), (5, []), (6, []), (4, [6]), (7, []), (8, []), (9, [])] else []) (show trF Try.prog Try.f42 _ _ [x0, x1] = p_impl_Fits x0 x1 by kernel_rfl) g
/- spec.Fits -/
def p_spec_Fits (x0 x1 : AV) : Prog := .op (.box x0) fun v => .op (.box x1) fun v_1 => .op (.ldn 6 v_1) fun v_2 => .op (.call n_spec_SpanOk [v_2]) fun v_3 => .gop v_3 true (.ldn 6 v_1) fun v_4 => .gop v_3 true (.fad 2 v) fun v => .gop v_3 true (.ld1 v) fun v_5 => .gop v_3 true (.call n_spec_SizeOf [v_4]) fun v_6 => .gchk v_3 true (.ld1 v) v_5 (.gop v_3 true (.bin 0 .leq v_6 v_5) fun v => .op (.pick v_3 v (AV.bool false)) fun v => .fin [.val v])
theorem c_spec_Fits (x0 x1 : AV) {h : AH} {R : AV → AH → Prop} (g : (p_spec_Fits x0 x1).awp Try.prog h fun t vs h' => t = 1 ∧ ∃ v, vs = [v] ∧ R v h') : ACalls Try.prog n_spec_Fits [x0, x1] h R :=
  acalls_of follows Try.func40 (by kernel_rfl) (by kernel_rfl) [] (fun r => if r = 1 then [(0, []), (1, []), (2, []), (3, []), (5, []), (6, []), (4, [6]), (7, []), (8, []), (9, [])] else []) (show trF Try.prog Try.f40 _ _ [x0, x1] = p_spec_Fits x0 x1 by kernel_rfl) g
end
section
variable {P : Program} {h : AH} {Q : Nat → List AV → AH → Prop} {k : AV → Prog}
theorem bv_nat {p : Nat} (hp : p < 9223372036854775808) : (BitVec.ofInt 64 (p : Int)).toNat = p := by
  rw [BitVec.ofInt_natCast, BitVec.toNat_ofNat]; omega
theorem w_andn {p q : Nat} (hp : p < 9223372036854775808) (hq : q < 9223372036854775808) (hk : (k (.int .i64 ((p &&& q : Nat) : Int))).awp P h Q) : (Prog.op (.bin 0 .and (.int .i64 (p : Int)) (.int .i64 (q : Int))) k).awp P h Q := by
  have e : abin .and (.int .i64 (p : Int)) (.int .i64 (q : Int)) = some (.int .i64 ((p &&& q : Nat) : Int)) := by
    have h1 : (BitVec.ofInt 64 (p : Int) &&& BitVec.ofInt 64 (q : Int)).toNat = p &&& q := by rw [BitVec.toNat_and, bv_nat hp, bv_nat hq]
    have h2 : p &&& q ≤ p := Nat.and_le_left
    show (if IntKind.i64 = IntKind.i64 then some (AV.int .i64 (IntKind.i64.wrap ((BitVec.ofInt 64 (p : Int) &&& BitVec.ofInt 64 (q : Int)).toNat : Int))) else none) = _
    rw [if_pos rfl, h1, wrap_id (by omega) (by omega)]
  simp only [Prog.awp, AOp.go, binOk, e]; exact hk
theorem w_and0 {a : Int} (hk : (k (.int .i64 (((BitVec.ofInt 64 a).toNat % 65536 : Nat) : Int))).awp P h Q) : (Prog.op (.bin 0 .and (.int .i64 a) (.int .i64 65535)) k).awp P h Q := by
  have e : abin .and (.int .i64 a) (.int .i64 65535) = some (.int .i64 (((BitVec.ofInt 64 a).toNat % 65536 : Nat) : Int)) := by
    have h1 : (BitVec.ofInt 64 a &&& BitVec.ofInt 64 65535).toNat = (BitVec.ofInt 64 a).toNat % 65536 := by
      rw [BitVec.toNat_and, show (BitVec.ofInt 64 65535).toNat = 2 ^ 16 - 1 by decide, Nat.and_two_pow_sub_one_eq_mod]
    show (if IntKind.i64 = IntKind.i64 then some (AV.int .i64 (IntKind.i64.wrap ((BitVec.ofInt 64 a &&& BitVec.ofInt 64 65535).toNat : Int))) else none) = _
    rw [if_pos rfl, h1, wrap_id (by omega) (by omega)]
  simp only [Prog.awp, AOp.go, binOk, e]; exact hk
theorem w_xorn {p q : Nat} (hp : p < 4294967296) (hq : q < 4294967296) (hk : (k (.int .i64 ((p ^^^ q : Nat) : Int))).awp P h Q) : (Prog.op (.bin 0 .xor (.int .i64 (p : Int)) (.int .i64 (q : Int))) k).awp P h Q := by
  have e : abin .xor (.int .i64 (p : Int)) (.int .i64 (q : Int)) = some (.int .i64 ((p ^^^ q : Nat) : Int)) := by
    have h1 : (BitVec.ofInt 64 (p : Int) ^^^ BitVec.ofInt 64 (q : Int)).toNat = p ^^^ q := by rw [BitVec.toNat_xor, bv_nat (by omega), bv_nat (by omega)]
    have h2 : p ^^^ q < 2 ^ 32 := Nat.xor_lt_two_pow hp hq
    show (if IntKind.i64 = IntKind.i64 then some (AV.int .i64 (IntKind.i64.wrap ((BitVec.ofInt 64 (p : Int) ^^^ BitVec.ofInt 64 (q : Int)).toNat : Int))) else none) = _
    rw [if_pos rfl, h1, wrap_id (by omega) (by omega)]
  simp only [Prog.awp, AOp.go, binOk, e]; exact hk
theorem w_shl7 {p : Nat} (hp : p < 65536) (hk : (k (.int .i64 ((p * 128 : Nat) : Int))).awp P h Q) : (Prog.op (.bin 0 .shl (.int .i64 (p : Int)) (.int .u64 7)) k).awp P h Q := by
  have e : abin .shl (.int .i64 (p : Int)) (.int .u64 7) = some (.int .i64 ((p * 128 : Nat) : Int)) := by
    show (if (7 : Int) < 0 then none else some (AV.int .i64 (IntKind.i64.wrap ((p : Int) * 2 ^ (min (7 : Int).toNat IntKind.i64.bits))))) = _
    rw [if_neg (by decide), show (2 : Int) ^ (min (7 : Int).toNat IntKind.i64.bits) = 128 by decide, wrap_id (by omega) (by omega)]
    simp
  simp only [Prog.awp, AOp.go, binOk, e]; exact hk
theorem w_shl8 {p : Nat} (hp : p < 65536) (hk : (k (.int .i64 ((p * 256 : Nat) : Int))).awp P h Q) : (Prog.op (.bin 0 .shl (.int .i64 (p : Int)) (.int .u64 8)) k).awp P h Q := by
  have e : abin .shl (.int .i64 (p : Int)) (.int .u64 8) = some (.int .i64 ((p * 256 : Nat) : Int)) := by
    show (if (8 : Int) < 0 then none else some (AV.int .i64 (IntKind.i64.wrap ((p : Int) * 2 ^ (min (8 : Int).toNat IntKind.i64.bits))))) = _
    rw [if_neg (by decide), show (2 : Int) ^ (min (8 : Int).toNat IntKind.i64.bits) = 256 by decide, wrap_id (by omega) (by omega)]
    simp
  simp only [Prog.awp, AOp.go, binOk, e]; exact hk
theorem w_shr9 {p : Nat} (hk : (k (.int .i64 ((p / 512 : Nat) : Int))).awp P h Q) : (Prog.op (.bin 0 .shr (.int .i64 (p : Int)) (.int .u64 9)) k).awp P h Q := by
  have e : abin .shr (.int .i64 (p : Int)) (.int .u64 9) = some (.int .i64 ((p / 512 : Nat) : Int)) := by
    show (if (9 : Int) < 0 then none else some (AV.int .i64 ((p : Int).fdiv (2 ^ (min (9 : Int).toNat IntKind.i64.bits))))) = _
    rw [if_neg (by decide), show (2 : Int) ^ (min (9 : Int).toNat IntKind.i64.bits) = 512 by decide, Int.fdiv_eq_ediv_of_nonneg _ (by decide), show (p : Int) / 512 = ((p / 512 : Nat) : Int) by omega]
  simp only [Prog.awp, AOp.go, binOk, e]; exact hk
end
def mixA (n : Int) : Nat := (BitVec.ofInt 64 n).toNat % 65536
def mixB (a : Nat) : Nat := a ^^^ (a * 128) % 65536
def mixC (a : Nat) : Nat := a ^^^ a / 512
def mixD (a : Nat) : Nat := a ^^^ (a * 256) % 65536
def mix (n : Int) : Nat := mixD (mixC (mixB (mixA n)))
theorem mixA_lt (n : Int) : mixA n < 65536 := Nat.mod_lt _ (by decide)
theorem mixB_lt {a : Nat} (h : a < 65536) : mixB a < 65536 := Nat.xor_lt_two_pow (n := 16) h (Nat.mod_lt _ (by decide))
theorem mixC_lt {a : Nat} (h : a < 65536) : mixC a < 65536 := Nat.xor_lt_two_pow (n := 16) h (by omega)
theorem mixD_lt {a : Nat} (h : a < 65536) : mixD a < 65536 := Nat.xor_lt_two_pow (n := 16) h (Nat.mod_lt _ (by decide))
theorem mix_lt (n : Int) : mix n < 65536 := mixD_lt (mixC_lt (mixB_lt (mixA_lt n)))
theorem s_impl_Mix {h : AH} {n : Int} : RCalls Try.prog n_impl_Mix [.int .i64 n] h (.int .i64 (mix n : Nat)) := by
  refine reader (c_impl_Mix _) (by simp only [old]) ?_
  unfold p_impl_Mix
  have l0 := mixA_lt n
  have l1 := mixB_lt l0
  have l2 := mixC_lt l1
  refine w_and0 ?_
  rw [show (BitVec.ofInt 64 n).toNat % 65536 = mixA n from rfl]
  refine w_shl7 l0 (w_andn (q := 65535) (by omega) (by decide) (w_xorn (by omega) ?_ ?_))
  · exact Nat.lt_of_le_of_lt Nat.and_le_right (by decide)
  rw [Nat.and_two_pow_sub_one_eq_mod (n := 16), show mixA n ^^^ mixA n * 128 % 2 ^ 16 = mixB (mixA n) from rfl]
  refine w_shr9 (w_xorn (by omega) (by omega) ?_)
  rw [show mixB (mixA n) ^^^ mixB (mixA n) / 512 = mixC (mixB (mixA n)) from rfl]
  refine w_shl8 l2 (w_andn (q := 65535) (by omega) (by decide) (w_xorn (by omega) ?_ ?_))
  · exact Nat.lt_of_le_of_lt Nat.and_le_right (by decide)
  rw [Nat.and_two_pow_sub_one_eq_mod (n := 16)]
  exact aw_fin1 (pi rfl)
theorem s_spec_Mix {h : AH} {n : Int} : RCalls Try.prog n_spec_Mix [.int .i64 n] h (.int .i64 (mix n : Nat)) := by
  refine reader (c_spec_Mix _) (by simp only [old]) ?_
  unfold p_spec_Mix
  have l0 := mixA_lt n
  have l1 := mixB_lt l0
  have l2 := mixC_lt l1
  have x1 : ∀ a : Nat, a < 65536 → (a ^^^ (a * 128)) < 4294967296 := fun a ha => Nat.xor_lt_two_pow (n := 32) (by omega) (by omega)
  have x2 : ∀ a : Nat, a < 65536 → (a ^^^ (a * 256)) < 4294967296 := fun a ha => Nat.xor_lt_two_pow (n := 32) (by omega) (by omega)
  have y1 := x1 _ l0
  have y2 := x2 _ l2
  refine w_and0 ?_
  rw [show (BitVec.ofInt 64 n).toNat % 65536 = mixA n from rfl]
  refine w_shl7 l0 (w_xorn (by omega) (by omega) (w_andn (q := 65535) (by omega) (by decide) ?_))
  rw [Nat.and_two_pow_sub_one_eq_mod (n := 16), Nat.xor_mod_two_pow, Nat.mod_eq_of_lt (a := mixA n) (b := 2 ^ 16) l0, show mixA n ^^^ mixA n * 128 % 2 ^ 16 = mixB (mixA n) from rfl]
  refine w_shr9 (w_xorn (by omega) (by omega) ?_)
  rw [show mixB (mixA n) ^^^ mixB (mixA n) / 512 = mixC (mixB (mixA n)) from rfl]
  refine w_shl8 l2 (w_xorn (by omega) (by omega) (w_andn (q := 65535) (by omega) (by decide) ?_))
  rw [Nat.and_two_pow_sub_one_eq_mod (n := 16), Nat.xor_mod_two_pow, Nat.mod_eq_of_lt (a := mixC (mixB (mixA n))) (b := 2 ^ 16) l2]
  exact aw_fin1 (pi rfl)

def stripe (t n : Int) : Int := if n < 1 then 0 else ((mix t : Nat) : Int).tmod n
theorem stripe_b {t n : Int} (hn : 1 ≤ n) : 0 ≤ stripe t n ∧ stripe t n < n := by
  unfold stripe
  rw [if_neg (by omega)]
  exact ⟨Int.tmod_nonneg _ (by omega), Int.tmod_lt_of_pos _ (by omega)⟩
theorem s_impl_StripeOf {h : AH} {t n : Int} : RCalls Try.prog n_impl_StripeOf [.int .i64 t, .int .i64 n] h (.int .i64 (stripe t n)) := by
  refine reader (c_impl_StripeOf _ _) (by simp only [old]) ?_
  unfold p_impl_StripeOf
  (repeat' first|refine vs ?_|(refine br ?_ ?_<;>intro _<;>try(exfalso;first|omega|contradiction))|((with_reducible refine g_callf n_impl_Mix ?_);refine aw_rcall s_impl_Mix ?_)|((with_reducible refine g_idx ?_);((first|refine ix ?_|refine ixi ?_|(refine ixg ?_;intro _ _)|(refine ixgi ?_;intro _ _));first|rintro _ _ _ _ _ ⟨rfl,rfl⟩ _|rintro _ _ _ _ _ ⟨_,rfl,_⟩ _|rintro _ _ _ _ _ ⟨_,_,_,_,rfl,rfl,_,_⟩ _|intro _ _ _ _ _ _ _))|(refine sx ?_;intro _ _)|((with_reducible refine g_awp ?_);simp only [g0,g1,g2]))
  · exact pi (by unfold stripe; rw [if_pos (by assumption)])
  · refine aw_rem (by omega) (aw_fin1 (pi ?_))
    unfold stripe; rw [if_neg (by assumption)]
theorem s_spec_StripeOf {h : AH} {t n : Int} : RCalls Try.prog n_spec_StripeOf [.int .i64 t, .int .i64 n] h (.int .i64 (stripe t n)) := by
  refine reader (c_spec_StripeOf _ _) (by simp only [old]) ?_
  unfold p_spec_StripeOf
  (repeat' first|refine vs ?_|(refine br ?_ ?_<;>intro _<;>try(exfalso;first|omega|contradiction))|((with_reducible refine g_callf n_spec_Mix ?_);refine aw_rcall s_spec_Mix ?_)|((with_reducible refine g_idx ?_);((first|refine ix ?_|refine ixi ?_|(refine ixg ?_;intro _ _)|(refine ixgi ?_;intro _ _));first|rintro _ _ _ _ _ ⟨rfl,rfl⟩ _|rintro _ _ _ _ _ ⟨_,rfl,_⟩ _|rintro _ _ _ _ _ ⟨_,_,_,_,rfl,rfl,_,_⟩ _|intro _ _ _ _ _ _ _))|(refine sx ?_;intro _ _)|((with_reducible refine g_awp ?_);simp only [g0,g1,g2]))
  · exact pi (by unfold stripe; rw [if_pos (by assumption)])
  · refine aw_rem (by omega) (aw_fin1 (pi ?_))
    unfold stripe; rw [if_neg (by assumption)]

def holdsStripe (t : Task) (n : Int) : Int := if n < 1 then -1 else if t.op = 1 ∧ t.pc = 1 then stripe t.s.trace n else if (t.op = 1 ∧ t.pc = 3) ∨ (t.op = 2 ∧ (t.pc = 1 ∨ t.pc = 2)) then stripe t.trace n else -1
theorem s_impl_HoldsStripe {h : AH} {t : Task} {n : Int} {v v' : AV} : RCalls Try.prog n_impl_HoldsStripe [.agg (t.cs v v'), .int .i64 n] h (.int .i64 (holdsStripe t n)) := by
  refine reader (c_impl_HoldsStripe _ _) (by simp only [old]) ?_
  unfold p_impl_HoldsStripe
  (repeat' first|refine vs ?_|(refine br ?_ ?_<;>intro _<;>try(exfalso;first|omega|contradiction))|((with_reducible refine g_callf n_impl_StripeOf ?_);refine aw_rcall s_impl_StripeOf ?_)|((with_reducible refine g_idx ?_);((first|refine ix ?_|refine ixi ?_|(refine ixg ?_;intro _ _)|(refine ixgi ?_;intro _ _));first|rintro _ _ _ _ _ ⟨rfl,rfl⟩ _|rintro _ _ _ _ _ ⟨_,rfl,_⟩ _|rintro _ _ _ _ _ ⟨_,_,_,_,rfl,rfl,_,_⟩ _|intro _ _ _ _ _ _ _))|(refine sx ?_;intro _ _)|((with_reducible refine g_awp ?_);simp only [g0,g1,g2]))
  all_goals (refine pi ?_; simp [holdsStripe, *])
theorem s_spec_HoldsStripe {h : AH} {t : Task} {n : Int} {v v' : AV} : RCalls Try.prog n_spec_HoldsStripe [.agg (t.cs v v'), .int .i64 n] h (.int .i64 (holdsStripe t n)) := by
  refine reader (c_spec_HoldsStripe _ _) (by simp only [old]) ?_
  unfold p_spec_HoldsStripe
  (repeat' first|refine vs ?_|(refine br ?_ ?_<;>intro _<;>try(exfalso;first|omega|contradiction))|((with_reducible refine g_callf n_spec_StripeOf ?_);refine aw_rcall s_spec_StripeOf ?_)|((with_reducible refine g_idx ?_);((first|refine ix ?_|refine ixi ?_|(refine ixg ?_;intro _ _)|(refine ixgi ?_;intro _ _));first|rintro _ _ _ _ _ ⟨rfl,rfl⟩ _|rintro _ _ _ _ _ ⟨_,rfl,_⟩ _|rintro _ _ _ _ _ ⟨_,_,_,_,rfl,rfl,_,_⟩ _|intro _ _ _ _ _ _ _))|(refine sx ?_;intro _ _)|((with_reducible refine g_awp ?_);simp only [g0,g1,g2]))
  all_goals (refine pi ?_; simp [holdsStripe, *])

def trailOk (t : Trail) : Prop := (∀ s ∈ t.spans, spanOk s ∧ s.trace = t.id) ∧ (1 ≤ t.id ∧ t.id ≤ 999) ∧ 1 ≤ t.stamp ∧ (0 ≤ t.first ∧ t.first ≤ 2147483647) ∧ 0 < (t.spans.length : Int)
theorem s_impl_TrailOk {h : AH} {t : Trail} {v : AV} {F : List Nat} (ok : ∀ x ∈ t.spans, Cel.ok x) (hs : Sz.sz t ≤ 1048576) (r : SlRep h v t.spans F) : RCalls Try.prog n_impl_TrailOk [.agg (t.cs v)] h (.bool (bp (trailOk t))) := by
  refine reader (c_impl_TrailOk _) (by simp only [old]) ?_
  unfold p_impl_TrailOk
  have hsz : Sz.sz t = t.spans.length + szs t.spans := rfl
  refine vs ?_
  refine aw_upto t.spans.length (fun i vs h1 => vs = [.int .i64 (i : Int)] ∧ i ≤ t.spans.length ∧ Ext (h.push ⟨t.cs v, 0, 0⟩) h1 ∧ Upto t.spans (fun _ s => spanOk s ∧ s.trace = t.id) i) ⟨rfl, Nat.zero_le _, ext_auto, up0⟩ ?_
  rintro i vs h1 _ ⟨rfl, hi, e1, hu⟩
  simp only [g0]
  refine br (fun hlt => ?_) (fun hge => ?_)
  · obtain ⟨x, hx, -, -⟩ := drop_step (show i < t.spans.length by omega)
    have hm := List.mem_of_getElem? hx
    have h5 := szs_mem hm
    (repeat' first|refine vs ?_|(refine br ?_ ?_<;>intro _<;>try(exfalso;first|omega|contradiction))|((with_reducible refine g_callf n_impl_SpanOk ?_);(refine aw_rcall_b (s_impl_SpanOk (ok x hm) (by omega) slr_auto) ?_ ?_ <;> intro hn <;> first | replace hn := bp_true hn | replace hn := bp_false hn))|((with_reducible refine g_idx ?_);((first|refine ix ?_|refine ixi ?_|(refine ixg ?_;intro _ _)|(refine ixgi ?_;intro _ _));first|rintro _ _ _ _ _ ⟨rfl,rfl⟩ _|rintro _ _ _ _ _ ⟨_,rfl,_⟩ _|rintro _ _ _ _ _ ⟨_,_,_,_,rfl,rfl,_,_⟩ _|intro _ _ _ _ _ _ _))|(refine sx ?_;intro _ _)|((with_reducible refine g_awp ?_);simp only [g0,g1,g2]))
    all_goals first
      | exact pf fun k => upNot hx (by rintro ⟨a1, a2⟩; first | contradiction | omega) k.1
      | exact ⟨by omega, rfl, by omega, ext_auto, upS hu hx ⟨hn, by omega⟩⟩
  · have e : i = t.spans.length := by omega
    rw [e] at hu
    have hu := upAll hu
    (repeat' first|refine vs ?_|(refine br ?_ ?_<;>intro _<;>try(exfalso;first|omega|contradiction))|((with_reducible refine g_callf n_impl_within ?_);(refine aw_rcall_b s_impl_within ?_ ?_ <;> intro hb <;> first | replace hb := inB_t hb | replace hb := inB_f hb))|((with_reducible refine g_idx ?_);((first|refine ix ?_|refine ixi ?_|(refine ixg ?_;intro _ _)|(refine ixgi ?_;intro _ _));first|rintro _ _ _ _ _ ⟨rfl,rfl⟩ _|rintro _ _ _ _ _ ⟨_,rfl,_⟩ _|rintro _ _ _ _ _ ⟨_,_,_,_,rfl,rfl,_,_⟩ _|intro _ _ _ _ _ _ _))|(refine sx ?_;intro _ _)|((with_reducible refine g_awp ?_);simp only [g0,g1,g2]))
    all_goals first
      | exact pt ⟨hu, by omega, by omega, by omega, by omega⟩
      | exact pf fun k => by obtain ⟨a1, a2, a3, a4, a5⟩ := k; omega
theorem s_spec_TrailOk {h : AH} {t : Trail} {v : AV} {F : List Nat} (ok : ∀ x ∈ t.spans, Cel.ok x) (hs : Sz.sz t ≤ 1048576) (r : SlRep h v t.spans F) : RCalls Try.prog n_spec_TrailOk [.agg (t.cs v)] h (.bool (bp (trailOk t))) := by
  refine reader (c_spec_TrailOk _) (by simp only [old]) ?_
  unfold p_spec_TrailOk
  have hsz : Sz.sz t = t.spans.length + szs t.spans := rfl
  have hsm := r.small
  refine vs ?_
  refine aw_upto t.spans.length (fun i vs h1 => vs = [.int .i64 (i : Int)] ∧ i ≤ t.spans.length ∧ Ext (h.push ⟨t.cs v, 0, 0⟩) h1 ∧ Upto t.spans (fun _ s => spanOk s ∧ s.trace = t.id) i) ⟨rfl, Nat.zero_le _, ext_auto, up0⟩ ?_
  rintro i vs h1 _ ⟨rfl, hi, e1, hu⟩
  simp only [g0]
  refine vs ?_
  refine br (fun hlt => ?_) (fun hge => ?_)
  · obtain ⟨x, hx, -, -⟩ := drop_step (show i < t.spans.length by omega)
    have hm := List.mem_of_getElem? hx
    have h5 := szs_mem hm
    (repeat' first|refine vs ?_|(refine br ?_ ?_<;>intro _<;>try(exfalso;first|omega|contradiction))|((with_reducible refine g_callf n_spec_SpanOk ?_);(refine aw_rcall_b (s_spec_SpanOk (ok x hm) (by omega) slr_auto) ?_ ?_ <;> intro hn <;> first | replace hn := bp_true hn | replace hn := bp_false hn))|((with_reducible refine g_idx ?_);((first|refine ix ?_|refine ixi ?_|(refine ixg ?_;intro _ _)|(refine ixgi ?_;intro _ _));first|rintro _ _ _ _ _ ⟨rfl,rfl⟩ _|rintro _ _ _ _ _ ⟨_,rfl,_⟩ _|rintro _ _ _ _ _ ⟨_,_,_,_,rfl,rfl,_,_⟩ _|intro _ _ _ _ _ _ _))|(refine sx ?_;intro _ _)|((with_reducible refine g_awp ?_);simp only [g0,g1,g2]))
    all_goals first
      | exact pf fun k => upNot hx (by rintro ⟨a1, a2⟩; first | contradiction | omega) k.1
      | exact ⟨by omega, rfl, by omega, ext_auto, upS hu hx ⟨hn, by omega⟩⟩
  · have e : i = t.spans.length := by omega
    rw [e] at hu
    have hu := upAll hu
    (repeat' first|refine vs ?_|(refine br ?_ ?_<;>intro _<;>try(exfalso;first|omega|contradiction))|((with_reducible refine g_callf n_spec_l1In ?_);(refine aw_rcall_b s_spec_l1In ?_ ?_ <;> intro hb <;> first | replace hb := inB_t hb | replace hb := inB_f hb))|((with_reducible refine g_idx ?_);((first|refine ix ?_|refine ixi ?_|(refine ixg ?_;intro _ _)|(refine ixgi ?_;intro _ _));first|rintro _ _ _ _ _ ⟨rfl,rfl⟩ _|rintro _ _ _ _ _ ⟨_,rfl,_⟩ _|rintro _ _ _ _ _ ⟨_,_,_,_,rfl,rfl,_,_⟩ _|intro _ _ _ _ _ _ _))|(refine sx ?_;intro _ _)|((with_reducible refine g_awp ?_);simp only [g0,g1,g2]))
    all_goals first
      | exact pt ⟨hu, by omega, by omega, by omega, by omega⟩
      | exact pf fun k => by obtain ⟨a1, a2, a3, a4, a5⟩ := k; omega

def fits (c : Conf) (s : Span) : Prop := spanOk s ∧ spanSize s ≤ c.budget
theorem s_impl_Fits {h : AH} {c : Conf} {s : Span} {v v' : AV} {F : List Nat} (ok : Cel.ok s) (hs : Sz.sz s ≤ 1048576) (r : SlRep h v' s.attrs F) : RCalls Try.prog n_impl_Fits [.agg (c.cs v), .agg (s.cs v')] h (.bool (bp (fits c s))) := by
  refine reader (c_impl_Fits _ _) (by simp only [old]) ?_
  unfold p_impl_Fits
  (repeat' first|refine vs ?_|(refine br ?_ ?_<;>intro _<;>try(exfalso;first|omega|contradiction))|((with_reducible refine g_callf n_impl_SpanOk ?_);(refine aw_rcall_b (s_impl_SpanOk ok hs slr_auto) ?_ ?_ <;> intro hn <;> first | replace hn := bp_true hn | replace hn := bp_false hn))|((with_reducible refine g_callf n_impl_SizeOf ?_);refine aw_rcall (s_impl_SizeOf hs slr_auto) ?_)|((with_reducible refine g_idx ?_);((first|refine ix ?_|refine ixi ?_|(refine ixg ?_;intro _ _)|(refine ixgi ?_;intro _ _));first|rintro _ _ _ _ _ ⟨rfl,rfl⟩ _|rintro _ _ _ _ _ ⟨_,rfl,_⟩ _|rintro _ _ _ _ _ ⟨_,_,_,_,rfl,rfl,_,_⟩ _|intro _ _ _ _ _ _ _))|(refine sx ?_;intro _ _)|((with_reducible refine g_awp ?_);simp only [g0,g1,g2]))
  all_goals first
    | exact pt ⟨by assumption, by omega⟩
    | exact pf fun k => by obtain ⟨a1, a2⟩ := k; first | contradiction | omega
theorem s_spec_Fits {h : AH} {c : Conf} {s : Span} {v v' : AV} {F : List Nat} (ok : Cel.ok s) (hs : Sz.sz s ≤ 1048576) (r : SlRep h v' s.attrs F) : RCalls Try.prog n_spec_Fits [.agg (c.cs v), .agg (s.cs v')] h (.bool (bp (fits c s))) := by
  refine reader (c_spec_Fits _ _) (by simp only [old]) ?_
  unfold p_spec_Fits
  (repeat' first|refine vs ?_|(refine br ?_ ?_<;>intro _<;>try(exfalso;first|omega|contradiction))|((with_reducible refine g_callf n_spec_SpanOk ?_);(refine aw_rcall_b (s_spec_SpanOk ok hs slr_auto) ?_ ?_ <;> intro hn <;> first | replace hn := bp_true hn | replace hn := bp_false hn))|((with_reducible refine g_callf n_spec_SizeOf ?_);refine aw_rcall (s_spec_SizeOf hs slr_auto) ?_)|((with_reducible refine g_idx ?_);((first|refine ix ?_|refine ixi ?_|(refine ixg ?_;intro _ _)|(refine ixgi ?_;intro _ _));first|rintro _ _ _ _ _ ⟨rfl,rfl⟩ _|rintro _ _ _ _ _ ⟨_,rfl,_⟩ _|rintro _ _ _ _ _ ⟨_,_,_,_,rfl,rfl,_,_⟩ _|intro _ _ _ _ _ _ _))|(refine sx ?_;intro _ _)|((with_reducible refine g_awp ?_);simp only [g0,g1,g2]))
  all_goals first
    | exact pt ⟨by assumption, by omega⟩
    | exact pf fun k => by obtain ⟨a1, a2⟩ := k; first | contradiction | omega
end Go.Proofs.Ytienckhjfcplcaa
