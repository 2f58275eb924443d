/- Stripes of trails; which trails may be; what fits. -/
import Derived.Test.YtpcgbddmdipfbaaW5
set_option linter.unusedSimpArgs false
set_option linter.unusedVariables false
set_option maxHeartbeats 1000000
namespace Go.Proofs.Ytpcgbddmdipfbaa
open Go Go.Ab
section
/- impl.Mix -/
def p_impl_Mix (x0 : AV) : Prog := .op (.bin 0 .and x0 (AV.int .i64 65535)) fun v1 => .op (.bin 0 .shl v1 (AV.int .u64 7)) fun v2 => .op (.bin 0 .and v2 (AV.int .i64 65535)) fun v3 => .op (.bin 0 .xor v1 v3) fun v4 => .op (.bin 0 .shr v4 (AV.int .u64 9)) fun v5 => .op (.bin 0 .xor v4 v5) fun v6 => .op (.bin 0 .shl v6 (AV.int .u64 8)) fun v7 => .op (.bin 0 .and v7 (AV.int .i64 65535)) fun v8 => .op (.bin 0 .xor v6 v8) fun v9 => .fin [.val v9]
theorem c_impl_Mix (x0 : AV) : CC Try.prog n_impl_Mix [x0] (p_impl_Mix x0) := cc Try.func203 [] (fun _ => []) (by kernel_rfl)
/- spec.Mix -/
def p_spec_Mix (x0 : AV) : Prog := .op (.bin 0 .and x0 (AV.int .i64 65535)) fun v1 => .op (.bin 0 .shl v1 (AV.int .u64 7)) fun v2 => .op (.bin 0 .xor v1 v2) fun v3 => .op (.bin 0 .and v3 (AV.int .i64 65535)) fun v4 => .op (.bin 0 .shr v4 (AV.int .u64 9)) fun v5 => .op (.bin 0 .xor v4 v5) fun v6 => .op (.bin 0 .shl v6 (AV.int .u64 8)) fun v7 => .op (.bin 0 .xor v6 v7) fun v8 => .op (.bin 0 .and v8 (AV.int .i64 65535)) fun v9 => .fin [.val v9]
theorem c_spec_Mix (x0 : AV) : CC Try.prog n_spec_Mix [x0] (p_spec_Mix x0) := cc Try.func208 [] (fun _ => []) (by kernel_rfl)
/- impl.StripeOf -/
def p_impl_StripeOf (x0 x1 : AV) : Prog := .op (.bin 0 .lss x1 (AV.int .i64 1)) fun v1 => .ite v1 (.fin [.val (AV.int .i64 0)]) (.op (.call n_impl_Mix [x0]) fun v2 => .op (.bin 0 .rem v2 x1) fun v3 => .fin [.val v3])
theorem c_impl_StripeOf (x0 x1 : AV) : CC Try.prog n_impl_StripeOf [x0, x1] (p_impl_StripeOf x0 x1) := cc Try.func158 [] (fun _ => []) (by kernel_rfl)
/- spec.StripeOf -/
def p_spec_StripeOf (x0 x1 : AV) : Prog := .op (.bin 0 .lss x1 (AV.int .i64 1)) fun v1 => .ite v1 (.fin [.val (AV.int .i64 0)]) (.op (.call n_spec_Mix [x0]) fun v2 => .op (.bin 0 .rem v2 x1) fun v3 => .fin [.val v3])
theorem c_spec_StripeOf (x0 x1 : AV) : CC Try.prog n_spec_StripeOf [x0, x1] (p_spec_StripeOf x0 x1) := cc Try.func165 [] (fun _ => []) (by kernel_rfl)
/- impl.HoldsStripe -/
def p_impl_HoldsStripe (x0 x1 : AV) : Prog := .op (.box x0) fun v1 => .op (.bin 0 .lss x1 (AV.int .i64 1)) fun v2 => .ite v2 (.fin [.val (AV.int .i64 (-1))]) (.op (.fad 0 v1) fun v3 => .op (.ld1 v3) fun v4 => .op (.bin 0 .eql v4 (AV.int .i64 1)) fun v5 => .gop v5 true (.fad 1 v1) fun v6 => .gop v5 true (.ld1 v6) fun v7 => .gop v5 true (.bin 0 .eql v7 (AV.int .i64 1)) fun v8 => .op (.pick v5 v8 (AV.bool false)) fun v9 => .ite v9 (.op (.fad 2 v1) fun v10 => .op (.fad 0 v10) fun v11 => .op (.ld1 v11) fun v12 => .op (.call n_impl_StripeOf [v12, x1]) fun v13 => .fin [.val v13]) (.op (.fad 0 v1) fun v14 => .op (.ld1 v14) fun v15 => .op (.bin 0 .eql v15 (AV.int .i64 1)) fun v16 => .gop v16 true (.fad 1 v1) fun v17 => .gop v16 true (.ld1 v17) fun v18 => .gop v16 true (.bin 0 .eql v18 (AV.int .i64 3)) fun v19 => .op (.pick v16 v19 (AV.bool false)) fun v20 => .scope (.ite v20 (.leaf 0 [v20]) (.op (.fad 0 v1) fun v21 => .op (.ld1 v21) fun v22 => .op (.bin 0 .eql v22 (AV.int .i64 2)) fun v23 => .gop v23 true (.fad 1 v1) fun v24 => .gop v23 true (.ld1 v24) fun v25 => .gop v23 true (.bin 0 .eql v25 (AV.int .i64 1)) fun v26 => .gop v23 true (.mv v26) fun v27 => .gop v27 false (.fad 1 v1) fun v28 => .gop v27 false (.ld1 v28) fun v29 => .gop v27 false (.bin 0 .eql v29 (AV.int .i64 2)) fun v30 => .gop v23 true (.pick v27 (AV.bool true) v30) fun v31 => .op (.pick v23 v31 (AV.bool false)) fun v32 => .leaf 0 [v32])) (fun vs33 => .ite (g vs33 0) (.op (.fad 8 v1) fun v35 => .op (.ld1 v35) fun v36 => .op (.call n_impl_StripeOf [v36, x1]) fun v37 => .fin [.val v37]) (.fin [.val (AV.int .i64 (-1))])) fun t34 vs33 => tsel t34 1 (.leaf 1 vs33) .bad))
theorem c_impl_HoldsStripe (x0 x1 : AV) : CC Try.prog n_impl_HoldsStripe [x0, x1] (p_impl_HoldsStripe x0 x1) := cc Try.func67 [1, 2, 22] (fun _ => []) (by kernel_rfl)
/- spec.HoldsStripe -/
def p_spec_HoldsStripe (x0 x1 : AV) : Prog := .op (.box x0) fun v1 => .op (.bin 0 .lss x1 (AV.int .i64 1)) fun v2 => .ite v2 (.fin [.val (AV.int .i64 (-1))]) (.op (.fad 0 v1) fun v3 => .op (.ld1 v3) fun v4 => .op (.bin 0 .eql v4 (AV.int .i64 1)) fun v5 => .gop v5 true (.fad 1 v1) fun v6 => .gop v5 true (.ld1 v6) fun v7 => .gop v5 true (.bin 0 .eql v7 (AV.int .i64 1)) fun v8 => .op (.pick v5 v8 (AV.bool false)) fun v9 => .ite v9 (.op (.fad 2 v1) fun v10 => .op (.fad 0 v10) fun v11 => .op (.ld1 v11) fun v12 => .op (.call n_spec_StripeOf [v12, x1]) fun v13 => .fin [.val v13]) (.op (.fad 0 v1) fun v14 => .op (.ld1 v14) fun v15 => .op (.bin 0 .eql v15 (AV.int .i64 1)) fun v16 => .gop v16 true (.fad 1 v1) fun v17 => .gop v16 true (.ld1 v17) fun v18 => .gop v16 true (.bin 0 .eql v18 (AV.int .i64 3)) fun v19 => .op (.pick v16 v19 (AV.bool false)) fun v20 => .scope (.ite v20 (.leaf 0 [v20]) (.op (.fad 0 v1) fun v21 => .op (.ld1 v21) fun v22 => .op (.bin 0 .eql v22 (AV.int .i64 2)) fun v23 => .gop v23 true (.fad 1 v1) fun v24 => .gop v23 true (.ld1 v24) fun v25 => .gop v23 true (.bin 0 .eql v25 (AV.int .i64 1)) fun v26 => .gop v23 true (.mv v26) fun v27 => .gop v27 false (.fad 1 v1) fun v28 => .gop v27 false (.ld1 v28) fun v29 => .gop v27 false (.bin 0 .eql v29 (AV.int .i64 2)) fun v30 => .gop v23 true (.pick v27 (AV.bool true) v30) fun v31 => .op (.pick v23 v31 (AV.bool false)) fun v32 => .leaf 0 [v32])) (fun vs33 => .ite (g vs33 0) (.op (.fad 8 v1) fun v35 => .op (.ld1 v35) fun v36 => .op (.call n_spec_StripeOf [v36, x1]) fun v37 => .fin [.val v37]) (.fin [.val (AV.int .i64 (-1))])) fun t34 vs33 => tsel t34 1 (.leaf 1 vs33) .bad))
theorem c_spec_HoldsStripe (x0 x1 : AV) : CC Try.prog n_spec_HoldsStripe [x0, x1] (p_spec_HoldsStripe x0 x1) := cc Try.func74 [1, 2, 21] (fun _ => []) (by kernel_rfl)
/- impl.TrailOk -/
def p_impl_TrailOk (x0 : AV) : Prog := .op (.box x0) fun v1 => .op (.fad 3 v1) fun v2 => .op (.ld1 v2) fun v3 => .op (.len 0 v3) fun v4 => .loop [AV.int .i64 0] (fun vs5 => .op (.bin 0 .lss (g vs5 0) v4) fun v7 => .ite v7 (.op (.idx 6 v3 (g vs5 0)) fun v8 => .op (.ldn 6 v8) fun v9 => .op (.alloc z6_822) fun v10 => .op (.st 6 v10 v9) fun v11 => .op (.ldn 6 v10) fun v12 => .op (.call n_impl_SpanOk [v12]) fun v13 => .op (.una .not v13) fun v14 => .gop v14 false (.fad 0 v10) fun v15 => .gop v14 false (.ld1 v15) fun v16 => .gop v14 false (.fad 0 v1) fun v17 => .gop v14 false (.ld1 v17) fun v18 => .gop v14 false (.bin 0 .neq v16 v18) fun v19 => .op (.pick v14 (AV.bool true) v19) fun v20 => .ite v20 (.fin [.val (AV.bool false)]) (.op (.bin 0 .add (g vs5 0) (AV.int .i64 1)) fun v21 => .leaf 0 [v21])) (.leaf 2 [g vs5 0])) fun t6 vs5 => tsel t6 1 (.leaf 1 vs5) (tsel t6 2 (.op (.fad 0 v1) fun v22 => .op (.ld1 v22) fun v23 => .op (.call n_impl_within [v23, AV.int .i64 1, AV.int .i64 999]) fun v24 => .gop v24 true (.fad 1 v1) fun v25 => .gop v24 true (.ld1 v25) fun v26 => .gop v24 true (.bin 0 .geq v26 (AV.int .i64 1)) fun v27 => .op (.pick v24 v27 (AV.bool false)) fun v28 => .gop v28 true (.fad 2 v1) fun v29 => .gop v28 true (.ld1 v29) fun v30 => .gop v28 true (.call n_impl_within [v30, AV.int .i64 0, AV.int .i64 2147483647]) fun v31 => .op (.pick v28 v31 (AV.bool false)) fun v32 => .gop v32 true (.fad 3 v1) fun v33 => .gop v32 true (.ld1 v33) fun v34 => .gop v32 true (.len 0 v34) fun v35 => .gop v32 true (.bin 0 .gtr v35 (AV.int .i64 0)) fun v36 => .op (.pick v32 v36 (AV.bool false)) fun v37 => .fin [.val v37]) .bad)
theorem c_impl_TrailOk (x0 : AV) : CC Try.prog n_impl_TrailOk [x0] (p_impl_TrailOk x0) := cc Try.func89 [1, 6, 7, 8] (fun _ => []) (by kernel_rfl)
/- spec.TrailOk -/
def p_spec_TrailOk (x0 : AV) : Prog := .op (.box x0) fun v1 => .loop [AV.int .i64 0] (fun vs2 => .op (.fad 3 v1) fun v4 => .op (.ld1 v4) fun v5 => .op (.len 0 v5) fun v6 => .op (.bin 0 .lss (g vs2 0) v6) fun v7 => .ite v7 (.op (.fad 3 v1) fun v8 => .op (.ld1 v8) fun v9 => .op (.idx 6 v9 (g vs2 0)) fun v10 => .op (.ldn 6 v10) fun v11 => .op (.call n_spec_SpanOk [v11]) fun v12 => .op (.una .not v12) fun v13 => .gop v13 false (.fad 3 v1) fun v14 => .gop v13 false (.ld1 v14) fun v15 => .gop v13 false (.mv (g vs2 0)) fun v16 => .gop v13 false (.idx 6 v15 v16) fun v17 => .gop v13 false (.fad 0 v17) fun v18 => .gop v13 false (.ld1 v18) fun v19 => .gop v13 false (.fad 0 v1) fun v20 => .gop v13 false (.ld1 v20) fun v21 => .gop v13 false (.bin 0 .neq v19 v21) fun v22 => .op (.pick v13 (AV.bool true) v22) fun v23 => .ite v23 (.fin [.val (AV.bool false)]) (.op (.bin 0 .add (g vs2 0) (AV.int .i64 1)) fun v24 => .leaf 0 [v24])) (.leaf 2 [g vs2 0])) fun t3 vs2 => tsel t3 1 (.leaf 1 vs2) (tsel t3 2 (.op (.fad 0 v1) fun v25 => .op (.ld1 v25) fun v26 => .op (.call n_spec_l1In [v26, AV.int .i64 1, AV.int .i64 999]) fun v27 => .gop v27 true (.fad 1 v1) fun v28 => .gop v27 true (.ld1 v28) fun v29 => .gop v27 true (.bin 0 .geq v29 (AV.int .i64 1)) fun v30 => .op (.pick v27 v30 (AV.bool false)) fun v31 => .gop v31 true (.fad 2 v1) fun v32 => .gop v31 true (.ld1 v32) fun v33 => .gop v31 true (.call n_spec_l1In [v33, AV.int .i64 0, AV.int .i64 2147483647]) fun v34 => .op (.pick v31 v34 (AV.bool false)) fun v35 => .gop v35 true (.fad 3 v1) fun v36 => .gop v35 true (.ld1 v36) fun v37 => .gop v35 true (.len 0 v37) fun v38 => .gop v35 true (.bin 0 .geq v38 (AV.int .i64 1)) fun v39 => .op (.pick v35 v39 (AV.bool false)) fun v40 => .fin [.val v40]) .bad)
theorem c_spec_TrailOk (x0 : AV) : CC Try.prog n_spec_TrailOk [x0] (p_spec_TrailOk x0) := cc Try.func90 [1, 3] (fun r => if r = 4 then [(0, []), (1, []), (2, []), (3, []), (4, []), (5, []), (6, []), (7, []), (8, []), (9, []), (10, []), (11, []), (12, []), (13, []), (14, []), (15, []), (16, []), (17, [])] else []) (by kernel_rfl)
end
section
variable {P : Program} {h : AH} {Q : Nat → List AV → AH → Prop} {k : AV → Prog}
theorem bv_nat {p : Nat} (hp : p < 9223372036854775808) : (BitVec.ofInt 64 (p : Int)).toNat = p := by
  rw [BitVec.ofInt_natCast, BitVec.toNat_ofNat]; omega
theorem w_andn {p q : Nat} (hp : p < 9223372036854775808) (hq : q < 9223372036854775808) (hk : (k (.int .i64 ((p &&& q : Nat) : Int))).awp P h Q) : (Prog.op (.bin 0 .and (.int .i64 (p : Int)) (.int .i64 (q : Int))) k).awp P h Q := by
  have e : abin .and (.int .i64 (p : Int)) (.int .i64 (q : Int)) = some (.int .i64 ((p &&& q : Nat) : Int)) := by
    have h1 : (BitVec.ofInt 64 (p : Int) &&& BitVec.ofInt 64 (q : Int)).toNat = p &&& q := by rw [BitVec.toNat_and, bv_nat hp, bv_nat hq]
    have h2 : p &&& q ≤ p := Nat.and_le_left
    show (if IntKind.i64 = IntKind.i64 then some (AV.int .i64 (IntKind.i64.wrap ((BitVec.ofInt 64 (p : Int) &&& BitVec.ofInt 64 (q : Int)).toNat : Int))) else none) = _
    rw [if_pos rfl, h1, wrap_id (by omega) (by omega)]
  simp only [Prog.awp, AOp.go, binOk, e]; exact hk
theorem w_and0 {a : Int} (hk : (k (.int .i64 (((BitVec.ofInt 64 a).toNat % 65536 : Nat) : Int))).awp P h Q) : (Prog.op (.bin 0 .and (.int .i64 a) (.int .i64 65535)) k).awp P h Q := by
  have e : abin .and (.int .i64 a) (.int .i64 65535) = some (.int .i64 (((BitVec.ofInt 64 a).toNat % 65536 : Nat) : Int)) := by
    have h1 : (BitVec.ofInt 64 a &&& BitVec.ofInt 64 65535).toNat = (BitVec.ofInt 64 a).toNat % 65536 := by
      rw [BitVec.toNat_and, show (BitVec.ofInt 64 65535).toNat = 2 ^ 16 - 1 by decide, Nat.and_two_pow_sub_one_eq_mod]
    show (if IntKind.i64 = IntKind.i64 then some (AV.int .i64 (IntKind.i64.wrap ((BitVec.ofInt 64 a &&& BitVec.ofInt 64 65535).toNat : Int))) else none) = _
    rw [if_pos rfl, h1, wrap_id (by omega) (by omega)]
  simp only [Prog.awp, AOp.go, binOk, e]; exact hk
theorem w_xorn {p q : Nat} (hp : p < 4294967296) (hq : q < 4294967296) (hk : (k (.int .i64 ((p ^^^ q : Nat) : Int))).awp P h Q) : (Prog.op (.bin 0 .xor (.int .i64 (p : Int)) (.int .i64 (q : Int))) k).awp P h Q := by
  have e : abin .xor (.int .i64 (p : Int)) (.int .i64 (q : Int)) = some (.int .i64 ((p ^^^ q : Nat) : Int)) := by
    have h1 : (BitVec.ofInt 64 (p : Int) ^^^ BitVec.ofInt 64 (q : Int)).toNat = p ^^^ q := by rw [BitVec.toNat_xor, bv_nat (by omega), bv_nat (by omega)]
    have h2 : p ^^^ q < 2 ^ 32 := Nat.xor_lt_two_pow hp hq
    show (if IntKind.i64 = IntKind.i64 then some (AV.int .i64 (IntKind.i64.wrap ((BitVec.ofInt 64 (p : Int) ^^^ BitVec.ofInt 64 (q : Int)).toNat : Int))) else none) = _
    rw [if_pos rfl, h1, wrap_id (by omega) (by omega)]
  simp only [Prog.awp, AOp.go, binOk, e]; exact hk
theorem w_shl7 {p : Nat} (hp : p < 65536) (hk : (k (.int .i64 ((p * 128 : Nat) : Int))).awp P h Q) : (Prog.op (.bin 0 .shl (.int .i64 (p : Int)) (.int .u64 7)) k).awp P h Q := by
  have e : abin .shl (.int .i64 (p : Int)) (.int .u64 7) = some (.int .i64 ((p * 128 : Nat) : Int)) := by
    show (if (7 : Int) < 0 then none else some (AV.int .i64 (IntKind.i64.wrap ((p : Int) * 2 ^ (min (7 : Int).toNat IntKind.i64.bits))))) = _
    rw [if_neg (by decide), show (2 : Int) ^ (min (7 : Int).toNat IntKind.i64.bits) = 128 by decide, wrap_id (by omega) (by omega)]
    simp
  simp only [Prog.awp, AOp.go, binOk, e]; exact hk
theorem w_shl8 {p : Nat} (hp : p < 65536) (hk : (k (.int .i64 ((p * 256 : Nat) : Int))).awp P h Q) : (Prog.op (.bin 0 .shl (.int .i64 (p : Int)) (.int .u64 8)) k).awp P h Q := by
  have e : abin .shl (.int .i64 (p : Int)) (.int .u64 8) = some (.int .i64 ((p * 256 : Nat) : Int)) := by
    show (if (8 : Int) < 0 then none else some (AV.int .i64 (IntKind.i64.wrap ((p : Int) * 2 ^ (min (8 : Int).toNat IntKind.i64.bits))))) = _
    rw [if_neg (by decide), show (2 : Int) ^ (min (8 : Int).toNat IntKind.i64.bits) = 256 by decide, wrap_id (by omega) (by omega)]
    simp
  simp only [Prog.awp, AOp.go, binOk, e]; exact hk
theorem w_shr9 {p : Nat} (hk : (k (.int .i64 ((p / 512 : Nat) : Int))).awp P h Q) : (Prog.op (.bin 0 .shr (.int .i64 (p : Int)) (.int .u64 9)) k).awp P h Q := by
  have e : abin .shr (.int .i64 (p : Int)) (.int .u64 9) = some (.int .i64 ((p / 512 : Nat) : Int)) := by
    show (if (9 : Int) < 0 then none else some (AV.int .i64 ((p : Int).fdiv (2 ^ (min (9 : Int).toNat IntKind.i64.bits))))) = _
    rw [if_neg (by decide), show (2 : Int) ^ (min (9 : Int).toNat IntKind.i64.bits) = 512 by decide, Int.fdiv_eq_ediv_of_nonneg _ (by decide), show (p : Int) / 512 = ((p / 512 : Nat) : Int) by omega]
  simp only [Prog.awp, AOp.go, binOk, e]; exact hk
end
def mixA (n : Int) : Nat := (BitVec.ofInt 64 n).toNat % 65536
def mixB (a : Nat) : Nat := a ^^^ (a * 128) % 65536
def mixC (a : Nat) : Nat := a ^^^ a / 512
def mixD (a : Nat) : Nat := a ^^^ (a * 256) % 65536
def mix (n : Int) : Nat := mixD (mixC (mixB (mixA n)))
theorem mixA_lt (n : Int) : mixA n < 65536 := Nat.mod_lt _ (by decide)
theorem mixB_lt {a : Nat} (h : a < 65536) : mixB a < 65536 := Nat.xor_lt_two_pow (n := 16) h (Nat.mod_lt _ (by decide))
theorem mixC_lt {a : Nat} (h : a < 65536) : mixC a < 65536 := Nat.xor_lt_two_pow (n := 16) h (by omega)
theorem mixD_lt {a : Nat} (h : a < 65536) : mixD a < 65536 := Nat.xor_lt_two_pow (n := 16) h (Nat.mod_lt _ (by decide))
theorem mix_lt (n : Int) : mix n < 65536 := mixD_lt (mixC_lt (mixB_lt (mixA_lt n)))
theorem s_impl_Mix {h : AH} {n : Int} : RCalls Try.prog n_impl_Mix [.int .i64 n] h (.int .i64 (mix n : Nat)) := by
  refine reader (c_impl_Mix _) (by simp only [old]) ?_
  unfold p_impl_Mix
  have l0 := mixA_lt n
  have l1 := mixB_lt l0
  have l2 := mixC_lt l1
  refine w_and0 ?_
  rw [show (BitVec.ofInt 64 n).toNat % 65536 = mixA n from rfl]
  refine w_shl7 l0 (w_andn (q := 65535) (by omega) (by decide) (w_xorn (by omega) ?_ ?_))
  · exact Nat.lt_of_le_of_lt Nat.and_le_right (by decide)
  rw [Nat.and_two_pow_sub_one_eq_mod (n := 16), show mixA n ^^^ mixA n * 128 % 2 ^ 16 = mixB (mixA n) from rfl]
  refine w_shr9 (w_xorn (by omega) (by omega) ?_)
  rw [show mixB (mixA n) ^^^ mixB (mixA n) / 512 = mixC (mixB (mixA n)) from rfl]
  refine w_shl8 l2 (w_andn (q := 65535) (by omega) (by decide) (w_xorn (by omega) ?_ ?_))
  · exact Nat.lt_of_le_of_lt Nat.and_le_right (by decide)
  rw [Nat.and_two_pow_sub_one_eq_mod (n := 16)]
  exact aw_fin1 (pi rfl)
theorem s_spec_Mix {h : AH} {n : Int} : RCalls Try.prog n_spec_Mix [.int .i64 n] h (.int .i64 (mix n : Nat)) := by
  refine reader (c_spec_Mix _) (by simp only [old]) ?_
  unfold p_spec_Mix
  have l0 := mixA_lt n
  have l1 := mixB_lt l0
  have l2 := mixC_lt l1
  have x1 : ∀ a : Nat, a < 65536 → (a ^^^ (a * 128)) < 4294967296 := fun a ha => Nat.xor_lt_two_pow (n := 32) (by omega) (by omega)
  have x2 : ∀ a : Nat, a < 65536 → (a ^^^ (a * 256)) < 4294967296 := fun a ha => Nat.xor_lt_two_pow (n := 32) (by omega) (by omega)
  have y1 := x1 _ l0
  have y2 := x2 _ l2
  refine w_and0 ?_
  rw [show (BitVec.ofInt 64 n).toNat % 65536 = mixA n from rfl]
  refine w_shl7 l0 (w_xorn (by omega) (by omega) (w_andn (q := 65535) (by omega) (by decide) ?_))
  rw [Nat.and_two_pow_sub_one_eq_mod (n := 16), Nat.xor_mod_two_pow, Nat.mod_eq_of_lt (a := mixA n) (b := 2 ^ 16) l0, show mixA n ^^^ mixA n * 128 % 2 ^ 16 = mixB (mixA n) from rfl]
  refine w_shr9 (w_xorn (by omega) (by omega) ?_)
  rw [show mixB (mixA n) ^^^ mixB (mixA n) / 512 = mixC (mixB (mixA n)) from rfl]
  refine w_shl8 l2 (w_xorn (by omega) (by omega) (w_andn (q := 65535) (by omega) (by decide) ?_))
  rw [Nat.and_two_pow_sub_one_eq_mod (n := 16), Nat.xor_mod_two_pow, Nat.mod_eq_of_lt (a := mixC (mixB (mixA n))) (b := 2 ^ 16) l2]
  exact aw_fin1 (pi rfl)

def stripe (t n : Int) : Int := if n < 1 then 0 else ((mix t : Nat) : Int).tmod n
theorem stripe_b {t n : Int} (hn : 1 ≤ n) : 0 ≤ stripe t n ∧ stripe t n < n := by
  unfold stripe
  rw [if_neg (by omega)]
  exact ⟨Int.tmod_nonneg _ (by omega), Int.tmod_lt_of_pos _ (by omega)⟩
theorem s_impl_StripeOf {h : AH} {t n : Int} : RCalls Try.prog n_impl_StripeOf [.int .i64 t, .int .i64 n] h (.int .i64 (stripe t n)) := by
  refine reader (c_impl_StripeOf _ _) (by simp only [old]) ?_
  unfold p_impl_StripeOf
  (repeat' first|refine vs ?_|(refine br ?_ ?_<;>intro _<;>try(exfalso;first|omega|contradiction))|((with_reducible refine g_callf n_impl_Mix ?_);refine aw_rcall s_impl_Mix ?_)|((with_reducible refine g_idx ?_);((first|refine ix ?_|refine ixi ?_|(refine ixg ?_;intro _ _)|(refine ixgi ?_;intro _ _));first|rintro _ _ _ _ _ ⟨rfl,rfl⟩ _|rintro _ _ _ _ _ ⟨_,rfl,_⟩ _|rintro _ _ _ _ _ ⟨_,_,_,_,rfl,rfl,_,_⟩ _|intro _ _ _ _ _ _ _))|(refine sx ?_;intro _ _)|((with_reducible refine g_awp ?_);simp only [g0,g1,g2]))
  · exact pi (by unfold stripe; rw [if_pos (by assumption)])
  · refine aw_rem (by omega) (aw_fin1 (pi ?_))
    unfold stripe; rw [if_neg (by assumption)]
theorem s_spec_StripeOf {h : AH} {t n : Int} : RCalls Try.prog n_spec_StripeOf [.int .i64 t, .int .i64 n] h (.int .i64 (stripe t n)) := by
  refine reader (c_spec_StripeOf _ _) (by simp only [old]) ?_
  unfold p_spec_StripeOf
  (repeat' first|refine vs ?_|(refine br ?_ ?_<;>intro _<;>try(exfalso;first|omega|contradiction))|((with_reducible refine g_callf n_spec_Mix ?_);refine aw_rcall s_spec_Mix ?_)|((with_reducible refine g_idx ?_);((first|refine ix ?_|refine ixi ?_|(refine ixg ?_;intro _ _)|(refine ixgi ?_;intro _ _));first|rintro _ _ _ _ _ ⟨rfl,rfl⟩ _|rintro _ _ _ _ _ ⟨_,rfl,_⟩ _|rintro _ _ _ _ _ ⟨_,_,_,_,rfl,rfl,_,_⟩ _|intro _ _ _ _ _ _ _))|(refine sx ?_;intro _ _)|((with_reducible refine g_awp ?_);simp only [g0,g1,g2]))
  · exact pi (by unfold stripe; rw [if_pos (by assumption)])
  · refine aw_rem (by omega) (aw_fin1 (pi ?_))
    unfold stripe; rw [if_neg (by assumption)]

def holdsStripe (t : Task) (n : Int) : Int := if n < 1 then -1 else if t.op = 1 ∧ t.pc = 1 then stripe t.s.trace n else if (t.op = 1 ∧ t.pc = 3) ∨ (t.op = 2 ∧ (t.pc = 1 ∨ t.pc = 2)) then stripe t.trace n else -1
theorem s_impl_HoldsStripe {h : AH} {t : Task} {n : Int} {v v' : AV} : RCalls Try.prog n_impl_HoldsStripe [.agg (t.cs v v'), .int .i64 n] h (.int .i64 (holdsStripe t n)) := by
  refine reader (c_impl_HoldsStripe _ _) (by simp only [old]) ?_
  unfold p_impl_HoldsStripe
  (repeat' first|refine vs ?_|(refine br ?_ ?_<;>intro _<;>try(exfalso;first|omega|contradiction))|((with_reducible refine g_callf n_impl_StripeOf ?_);refine aw_rcall s_impl_StripeOf ?_)|((with_reducible refine g_idx ?_);((first|refine ix ?_|refine ixi ?_|(refine ixg ?_;intro _ _)|(refine ixgi ?_;intro _ _));first|rintro _ _ _ _ _ ⟨rfl,rfl⟩ _|rintro _ _ _ _ _ ⟨_,rfl,_⟩ _|rintro _ _ _ _ _ ⟨_,_,_,_,rfl,rfl,_,_⟩ _|intro _ _ _ _ _ _ _))|(refine sx ?_;intro _ _)|((with_reducible refine g_awp ?_);simp only [g0,g1,g2]))
  all_goals (refine pi ?_; simp [holdsStripe, *])
theorem s_spec_HoldsStripe {h : AH} {t : Task} {n : Int} {v v' : AV} : RCalls Try.prog n_spec_HoldsStripe [.agg (t.cs v v'), .int .i64 n] h (.int .i64 (holdsStripe t n)) := by
  refine reader (c_spec_HoldsStripe _ _) (by simp only [old]) ?_
  unfold p_spec_HoldsStripe
  (repeat' first|refine vs ?_|(refine br ?_ ?_<;>intro _<;>try(exfalso;first|omega|contradiction))|((with_reducible refine g_callf n_spec_StripeOf ?_);refine aw_rcall s_spec_StripeOf ?_)|((with_reducible refine g_idx ?_);((first|refine ix ?_|refine ixi ?_|(refine ixg ?_;intro _ _)|(refine ixgi ?_;intro _ _));first|rintro _ _ _ _ _ ⟨rfl,rfl⟩ _|rintro _ _ _ _ _ ⟨_,rfl,_⟩ _|rintro _ _ _ _ _ ⟨_,_,_,_,rfl,rfl,_,_⟩ _|intro _ _ _ _ _ _ _))|(refine sx ?_;intro _ _)|((with_reducible refine g_awp ?_);simp only [g0,g1,g2]))
  all_goals (refine pi ?_; simp [holdsStripe, *])

def trailOk (t : Trail) : Prop := (∀ s ∈ t.spans, spanOk s ∧ s.trace = t.id) ∧ (1 ≤ t.id ∧ t.id ≤ 999) ∧ 1 ≤ t.stamp ∧ (0 ≤ t.first ∧ t.first ≤ 2147483647) ∧ 0 < (t.spans.length : Int)
theorem s_impl_TrailOk {h : AH} {t : Trail} {v : AV} {F : List Nat} (ok : ∀ x ∈ t.spans, Cel.ok x) (hs : Sz.sz t ≤ 67108864) (r : SlRep h v t.spans F) : RCalls Try.prog n_impl_TrailOk [.agg (t.cs v)] h (.bool (bp (trailOk t))) := by
  refine reader (c_impl_TrailOk _) (by simp only [old]) ?_
  unfold p_impl_TrailOk
  have hsz : Sz.sz t = t.spans.length + szs t.spans := rfl
  refine vs ?_
  refine aw_upto t.spans.length (fun i vs h1 => vs = [.int .i64 (i : Int)] ∧ i ≤ t.spans.length ∧ Ext (h.push ⟨t.cs v, 0, 0⟩) h1 ∧ Upto t.spans (fun _ s => spanOk s ∧ s.trace = t.id) i) ⟨rfl, Nat.zero_le _, ext_auto, up0⟩ ?_
  rintro i vs h1 _ ⟨rfl, hi, e1, hu⟩
  simp only [g0]
  refine br (fun hlt => ?_) (fun hge => ?_)
  · obtain ⟨x, hx, -, -⟩ := drop_step (show i < t.spans.length by omega)
    have hm := List.mem_of_getElem? hx
    have h5 := szs_mem hm
    (repeat' first|refine vs ?_|(refine br ?_ ?_<;>intro _<;>try(exfalso;first|omega|contradiction))|((with_reducible refine g_callf n_impl_SpanOk ?_);(refine aw_rcall_b (s_impl_SpanOk (ok x hm) (by omega) slr_auto) ?_ ?_ <;> intro hn <;> first | replace hn := bp_true hn | replace hn := bp_false hn))|((with_reducible refine g_idx ?_);((first|refine ix ?_|refine ixi ?_|(refine ixg ?_;intro _ _)|(refine ixgi ?_;intro _ _));first|rintro _ _ _ _ _ ⟨rfl,rfl⟩ _|rintro _ _ _ _ _ ⟨_,rfl,_⟩ _|rintro _ _ _ _ _ ⟨_,_,_,_,rfl,rfl,_,_⟩ _|intro _ _ _ _ _ _ _))|(refine sx ?_;intro _ _)|((with_reducible refine g_awp ?_);simp only [g0,g1,g2]))
    all_goals first
      | exact pf fun k => upNot hx (by rintro ⟨a1, a2⟩; first | contradiction | omega) k.1
      | exact ⟨by omega, rfl, by omega, ext_auto, upS hu hx ⟨hn, by omega⟩⟩
  · have e : i = t.spans.length := by omega
    rw [e] at hu
    have hu := upAll hu
    (repeat' first|refine vs ?_|(refine br ?_ ?_<;>intro _<;>try(exfalso;first|omega|contradiction))|((with_reducible refine g_callf n_impl_within ?_);(refine aw_rcall_b s_impl_within ?_ ?_ <;> intro hb <;> first | replace hb := inB_t hb | replace hb := inB_f hb))|((with_reducible refine g_idx ?_);((first|refine ix ?_|refine ixi ?_|(refine ixg ?_;intro _ _)|(refine ixgi ?_;intro _ _));first|rintro _ _ _ _ _ ⟨rfl,rfl⟩ _|rintro _ _ _ _ _ ⟨_,rfl,_⟩ _|rintro _ _ _ _ _ ⟨_,_,_,_,rfl,rfl,_,_⟩ _|intro _ _ _ _ _ _ _))|(refine sx ?_;intro _ _)|((with_reducible refine g_awp ?_);simp only [g0,g1,g2]))
    all_goals first
      | exact pt ⟨hu, by omega, by omega, by omega, by omega⟩
      | exact pf fun k => by obtain ⟨a1, a2, a3, a4, a5⟩ := k; omega
theorem s_spec_TrailOk {h : AH} {t : Trail} {v : AV} {F : List Nat} (ok : ∀ x ∈ t.spans, Cel.ok x) (hs : Sz.sz t ≤ 67108864) (r : SlRep h v t.spans F) : RCalls Try.prog n_spec_TrailOk [.agg (t.cs v)] h (.bool (bp (trailOk t))) := by
  refine reader (c_spec_TrailOk _) (by simp only [old]) ?_
  unfold p_spec_TrailOk
  have hsz : Sz.sz t = t.spans.length + szs t.spans := rfl
  have hsm := r.small
  refine vs ?_
  refine aw_upto t.spans.length (fun i vs h1 => vs = [.int .i64 (i : Int)] ∧ i ≤ t.spans.length ∧ Ext (h.push ⟨t.cs v, 0, 0⟩) h1 ∧ Upto t.spans (fun _ s => spanOk s ∧ s.trace = t.id) i) ⟨rfl, Nat.zero_le _, ext_auto, up0⟩ ?_
  rintro i vs h1 _ ⟨rfl, hi, e1, hu⟩
  simp only [g0]
  refine vs ?_
  refine br (fun hlt => ?_) (fun hge => ?_)
  · obtain ⟨x, hx, -, -⟩ := drop_step (show i < t.spans.length by omega)
    have hm := List.mem_of_getElem? hx
    have h5 := szs_mem hm
    (repeat' first|refine vs ?_|(refine br ?_ ?_<;>intro _<;>try(exfalso;first|omega|contradiction))|((with_reducible refine g_callf n_spec_SpanOk ?_);(refine aw_rcall_b (s_spec_SpanOk (ok x hm) (by omega) slr_auto) ?_ ?_ <;> intro hn <;> first | replace hn := bp_true hn | replace hn := bp_false hn))|((with_reducible refine g_idx ?_);((first|refine ix ?_|refine ixi ?_|(refine ixg ?_;intro _ _)|(refine ixgi ?_;intro _ _));first|rintro _ _ _ _ _ ⟨rfl,rfl⟩ _|rintro _ _ _ _ _ ⟨_,rfl,_⟩ _|rintro _ _ _ _ _ ⟨_,_,_,_,rfl,rfl,_,_⟩ _|intro _ _ _ _ _ _ _))|(refine sx ?_;intro _ _)|((with_reducible refine g_awp ?_);simp only [g0,g1,g2]))
    all_goals first
      | exact pf fun k => upNot hx (by rintro ⟨a1, a2⟩; first | contradiction | omega) k.1
      | exact ⟨by omega, rfl, by omega, ext_auto, upS hu hx ⟨hn, by omega⟩⟩
  · have e : i = t.spans.length := by omega
    rw [e] at hu
    have hu := upAll hu
    (repeat' first|refine vs ?_|(refine br ?_ ?_<;>intro _<;>try(exfalso;first|omega|contradiction))|((with_reducible refine g_callf n_spec_l1In ?_);(refine aw_rcall_b s_spec_l1In ?_ ?_ <;> intro hb <;> first | replace hb := inB_t hb | replace hb := inB_f hb))|((with_reducible refine g_idx ?_);((first|refine ix ?_|refine ixi ?_|(refine ixg ?_;intro _ _)|(refine ixgi ?_;intro _ _));first|rintro _ _ _ _ _ ⟨rfl,rfl⟩ _|rintro _ _ _ _ _ ⟨_,rfl,_⟩ _|rintro _ _ _ _ _ ⟨_,_,_,_,rfl,rfl,_,_⟩ _|intro _ _ _ _ _ _ _))|(refine sx ?_;intro _ _)|((with_reducible refine g_awp ?_);simp only [g0,g1,g2]))
    all_goals first
      | exact pt ⟨hu, by omega, by omega, by omega, by omega⟩
      | exact pf fun k => by obtain ⟨a1, a2, a3, a4, a5⟩ := k; omega

def fits (c : Conf) (s : Span) : Prop := spanOk s ∧ spanSize s ≤ c.budget
end Go.Proofs.Ytpcgbddmdipfbaa
