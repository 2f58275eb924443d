import Derived.Test.YtekfdoknfcedpaaGreatRows
import Derived.WalkKit
import Derived.ProofKit
import Derived.OpenShut
import Derived.SizedLaws
import Derived.Test.YtekfdoknfcedpaaGreatCK4
import Derived.Test.YtekfdoknfcedpaaGreatCXFnExactOffer
/- The row of FnExactOffer. -/
namespace Go.Proofs.YtekfdoknfcedpaaGreat.fnExactOffer
open Go.ChangeShapes Go.WideShapes Go.ChangeAt Go.RowKit Go.Ab
set_option linter.unusedVariables false
section
set_option maxRecDepth 100000
theorem op_pols (n : Nat) : OpensF Pol Tryz.prog 24 n ∧ OpensF (List Pol) Tryz.prog 22 n := by
  induction n using Nat.strongRecOn with
  | ind m ih =>
    refine ⟨opens_struct Tryz.underlying24 (by kernel_rfl) (fun n hn => opensL_cons (k := 1) rfl (by kernel_rfl) (opens_int Tryz.underlying3) (opensL_cons (k := 1) rfl (by kernel_rfl) (opens_int Tryz.underlying3) (opensL_cons (k := 1) rfl (by kernel_rfl) (opens_str Tryz.underlying9) (opensL_cons (k := 1) rfl (by kernel_rfl) (opens_str Tryz.underlying9) (opensL_cons (k := 1) rfl (by kernel_rfl) ((ih n hn).2) (opensL_nil)))))) ?_, opens_slice Tryz.underlying22 (by kernel_rfl) (by decide +kernel) fun n hn => (ih n hn).1⟩
    rintro h avs F ⟨x0, c0, _, F0, _, rfl, rfl, ⟨rfl, rfl⟩, k0, x1, c1, _, F1, _, rfl, rfl, ⟨rfl, rfl⟩, k1, x2, c2, _, F2, _, rfl, rfl, ⟨rfl, rfl⟩, k2, x3, c3, _, F3, _, rfl, rfl, ⟨rfl, rfl⟩, k3, x4, c4, _, F4, _, rfl, rfl, ⟨v4, rfl, r4⟩, k4, rfl, rfl⟩
    exact mk_Pol k0 k1 k2 k3 r4 k4
theorem op_24 (n : Nat) : OpensF Pol Tryz.prog 24 n := (op_pols n).1
theorem op_22 (n : Nat) : OpensF (List Pol) Tryz.prog 22 n := (op_pols n).2
theorem op_26 (n : Nat) : OpensF Conf Tryz.prog 26 n := opens_struct Tryz.underlying26 (by kernel_rfl) (fun n _ => opensL_cons (k := 1) rfl (by kernel_rfl) (opens_int Tryz.underlying3) (opensL_cons (k := 1) rfl (by kernel_rfl) (opens_int Tryz.underlying3) (opensL_cons (k := 1) rfl (by kernel_rfl) (opens_int Tryz.underlying3) (opensL_cons (k := 1) rfl (by kernel_rfl) (opens_int Tryz.underlying3) (opensL_cons (k := 1) rfl (by kernel_rfl) (opens_int Tryz.underlying3) (opensL_cons (k := 1) rfl (by kernel_rfl) (opens_int Tryz.underlying3) (opensL_cons (k := 1) rfl (by kernel_rfl) (opens_int Tryz.underlying3) (opensL_cons (k := 5) rfl (by kernel_rfl) (op_24 _) (opensL_nil))))))))) (by
  rintro h avs F ⟨x0, c0, _, F0, _, rfl, rfl, ⟨rfl, rfl⟩, k0, x1, c1, _, F1, _, rfl, rfl, ⟨rfl, rfl⟩, k1, x2, c2, _, F2, _, rfl, rfl, ⟨rfl, rfl⟩, k2, x3, c3, _, F3, _, rfl, rfl, ⟨rfl, rfl⟩, k3, x4, c4, _, F4, _, rfl, rfl, ⟨rfl, rfl⟩, k4, x5, c5, _, F5, _, rfl, rfl, ⟨rfl, rfl⟩, k5, x6, c6, _, F6, _, rfl, rfl, ⟨rfl, rfl⟩, k6, x7, c7, _, F7, _, rfl, rfl, r7, k7, rfl, rfl⟩
  exact mk_Conf k0 k1 k2 k3 k4 k5 k6 r7 k7)
theorem op_215 (n : Nat) : OpensF Attr Tryz.prog 215 n := opens_struct Tryz.underlying215 (by kernel_rfl) (fun n _ => opensL_cons (k := 1) rfl (by kernel_rfl) (opens_str Tryz.underlying9) (opensL_cons (k := 1) rfl (by kernel_rfl) (opens_bool Tryz.underlying4) (opensL_cons (k := 1) rfl (by kernel_rfl) (opens_int Tryz.underlying3) (opensL_cons (k := 1) rfl (by kernel_rfl) (opens_str Tryz.underlying9) (opensL_nil))))) (by
  rintro h avs F ⟨x0, c0, _, F0, _, rfl, rfl, ⟨rfl, rfl⟩, k0, x1, c1, _, F1, _, rfl, rfl, ⟨rfl, rfl⟩, k1, x2, c2, _, F2, _, rfl, rfl, ⟨rfl, rfl⟩, k2, x3, c3, _, F3, _, rfl, rfl, ⟨rfl, rfl⟩, k3, rfl, rfl⟩
  exact mk_Attr k0 k1 k2 k3)
theorem op_64 (n : Nat) : OpensF (List Attr) Tryz.prog 64 n := opens_slice Tryz.underlying64 (by kernel_rfl) (by decide +kernel) fun n _ => op_215 _
theorem op_66 (n : Nat) : OpensF Span Tryz.prog 66 n := opens_struct Tryz.underlying66 (by kernel_rfl) (fun n _ => opensL_cons (k := 1) rfl (by kernel_rfl) (opens_int Tryz.underlying3) (opensL_cons (k := 1) rfl (by kernel_rfl) (opens_int Tryz.underlying3) (opensL_cons (k := 1) rfl (by kernel_rfl) (opens_int Tryz.underlying3) (opensL_cons (k := 1) rfl (by kernel_rfl) (opens_int Tryz.underlying3) (opensL_cons (k := 1) rfl (by kernel_rfl) (opens_bool Tryz.underlying4) (opensL_cons (k := 1) rfl (by kernel_rfl) (op_64 _) (opensL_nil))))))) (by
  rintro h avs F ⟨x0, c0, _, F0, _, rfl, rfl, ⟨rfl, rfl⟩, k0, x1, c1, _, F1, _, rfl, rfl, ⟨rfl, rfl⟩, k1, x2, c2, _, F2, _, rfl, rfl, ⟨rfl, rfl⟩, k2, x3, c3, _, F3, _, rfl, rfl, ⟨rfl, rfl⟩, k3, x4, c4, _, F4, _, rfl, rfl, ⟨rfl, rfl⟩, k4, x5, c5, _, F5, _, rfl, rfl, ⟨v5, rfl, r5⟩, k5, rfl, rfl⟩
  exact mk_Span k0 k1 k2 k3 k4 r5 k5)
theorem op_262 (n : Nat) : OpensF (List Span) Tryz.prog 262 n := opens_slice Tryz.underlying262 (by kernel_rfl) (by decide +kernel) fun n _ => op_66 _
theorem op_264 (n : Nat) : OpensF Trail Tryz.prog 264 n := opens_struct Tryz.underlying264 (by kernel_rfl) (fun n _ => opensL_cons (k := 1) rfl (by kernel_rfl) (opens_int Tryz.underlying3) (opensL_cons (k := 1) rfl (by kernel_rfl) (opens_int Tryz.underlying3) (opensL_cons (k := 1) rfl (by kernel_rfl) (opens_int Tryz.underlying3) (opensL_cons (k := 1) rfl (by kernel_rfl) (op_262 _) (opensL_nil))))) (by
  rintro h avs F ⟨x0, c0, _, F0, _, rfl, rfl, ⟨rfl, rfl⟩, k0, x1, c1, _, F1, _, rfl, rfl, ⟨rfl, rfl⟩, k1, x2, c2, _, F2, _, rfl, rfl, ⟨rfl, rfl⟩, k2, x3, c3, _, F3, _, rfl, rfl, ⟨v3, rfl, r3⟩, k3, rfl, rfl⟩
  exact mk_Trail k0 k1 k2 r3 k3)
theorem op_137 (n : Nat) : OpensF (List Trail) Tryz.prog 137 n := opens_slice Tryz.underlying137 (by kernel_rfl) (by decide +kernel) fun n _ => op_264 _
theorem op_139 (n : Nat) : OpensF Stripe Tryz.prog 139 n := opens_struct Tryz.underlying139 (by kernel_rfl) (fun n _ => opensL_cons (k := 1) rfl (by kernel_rfl) (opens_int Tryz.underlying3) (opensL_cons (k := 1) rfl (by kernel_rfl) (op_137 _) (opensL_nil))) (by
  rintro h avs F ⟨x0, c0, _, F0, _, rfl, rfl, ⟨rfl, rfl⟩, k0, x1, c1, _, F1, _, rfl, rfl, ⟨v1, rfl, r1⟩, k1, rfl, rfl⟩
  exact mk_Stripe k0 r1 k1)
theorem op_27 (n : Nat) : OpensF (List Stripe) Tryz.prog 27 n := opens_slice Tryz.underlying27 (by kernel_rfl) (by decide +kernel) fun n _ => op_139 _
theorem op_29 (n : Nat) : OpensF Bucket Tryz.prog 29 n := opens_struct Tryz.underlying29 (by kernel_rfl) (fun n _ => opensL_cons (k := 1) rfl (by kernel_rfl) (opens_int Tryz.underlying3) (opensL_cons (k := 1) rfl (by kernel_rfl) (opens_int Tryz.underlying3) (opensL_cons (k := 1) rfl (by kernel_rfl) (opens_int Tryz.underlying3) (opensL_cons (k := 1) rfl (by kernel_rfl) (opens_int Tryz.underlying3) (opensL_nil))))) (by
  rintro h avs F ⟨x0, c0, _, F0, _, rfl, rfl, ⟨rfl, rfl⟩, k0, x1, c1, _, F1, _, rfl, rfl, ⟨rfl, rfl⟩, k1, x2, c2, _, F2, _, rfl, rfl, ⟨rfl, rfl⟩, k2, x3, c3, _, F3, _, rfl, rfl, ⟨rfl, rfl⟩, k3, rfl, rfl⟩
  exact mk_Bucket k0 k1 k2 k3)
theorem op_176 (n : Nat) : OpensF Verdict Tryz.prog 176 n := opens_struct Tryz.underlying176 (by kernel_rfl) (fun n _ => opensL_cons (k := 1) rfl (by kernel_rfl) (opens_int Tryz.underlying3) (opensL_cons (k := 1) rfl (by kernel_rfl) (opens_int Tryz.underlying3) (opensL_cons (k := 1) rfl (by kernel_rfl) (opens_bool Tryz.underlying4) (opensL_nil)))) (by
  rintro h avs F ⟨x0, c0, _, F0, _, rfl, rfl, ⟨rfl, rfl⟩, k0, x1, c1, _, F1, _, rfl, rfl, ⟨rfl, rfl⟩, k1, x2, c2, _, F2, _, rfl, rfl, ⟨rfl, rfl⟩, k2, rfl, rfl⟩
  exact mk_Verdict k0 k1 k2)
theorem op_30 (n : Nat) : OpensF (List Verdict) Tryz.prog 30 n := opens_slice Tryz.underlying30 (by kernel_rfl) (by decide +kernel) fun n _ => op_176 _
theorem op_181 (n : Nat) : OpensF Ab.Timer Tryz.prog 181 n := opens_struct Tryz.underlying181 (by kernel_rfl) (fun n _ => opensL_cons (k := 1) rfl (by kernel_rfl) (opens_int Tryz.underlying3) (opensL_cons (k := 1) rfl (by kernel_rfl) (opens_int Tryz.underlying3) (opensL_cons (k := 1) rfl (by kernel_rfl) (opens_int Tryz.underlying3) (opensL_nil)))) (by
  rintro h avs F ⟨x0, c0, _, F0, _, rfl, rfl, ⟨rfl, rfl⟩, k0, x1, c1, _, F1, _, rfl, rfl, ⟨rfl, rfl⟩, k1, x2, c2, _, F2, _, rfl, rfl, ⟨rfl, rfl⟩, k2, rfl, rfl⟩
  exact mk_Timer k0 k1 k2)
theorem op_32 (n : Nat) : OpensF (List Ab.Timer) Tryz.prog 32 n := opens_slice Tryz.underlying32 (by kernel_rfl) (by decide +kernel) fun n _ => op_181 _
theorem op_31 (n : Nat) : OpensF (List (List Ab.Timer)) Tryz.prog 31 n := opens_slice Tryz.underlying31 (by kernel_rfl) (by decide +kernel) fun n _ => op_32 _
theorem op_34 (n : Nat) : OpensF Wheel Tryz.prog 34 n := opens_struct Tryz.underlying34 (by kernel_rfl) (fun n _ => opensL_cons (k := 1) rfl (by kernel_rfl) (opens_int Tryz.underlying3) (opensL_cons (k := 1) rfl (by kernel_rfl) (op_31 _) (opensL_cons (k := 1) rfl (by kernel_rfl) (op_31 _) (opensL_cons (k := 1) rfl (by kernel_rfl) (op_32 _) (opensL_nil))))) (by
  rintro h avs F ⟨x0, c0, _, F0, _, rfl, rfl, ⟨rfl, rfl⟩, k0, x1, c1, _, F1, _, rfl, rfl, ⟨v1, rfl, r1⟩, k1, x2, c2, _, F2, _, rfl, rfl, ⟨v2, rfl, r2⟩, k2, x3, c3, _, F3, _, rfl, rfl, ⟨v3, rfl, r3⟩, k3, rfl, rfl⟩
  exact mk_Wheel k0 r1 k1 r2 k2 r3 k3)
theorem op_143 (n : Nat) : OpensF Itm Tryz.prog 143 n := opens_struct Tryz.underlying143 (by kernel_rfl) (fun n _ => opensL_cons (k := 1) rfl (by kernel_rfl) (opens_int Tryz.underlying3) (opensL_cons (k := 6) rfl (by kernel_rfl) (op_66 _) (opensL_nil))) (by
  rintro h avs F ⟨x0, c0, _, F0, _, rfl, rfl, ⟨rfl, rfl⟩, k0, x1, c1, _, F1, _, rfl, rfl, r1, k1, rfl, rfl⟩
  exact mk_Itm k0 r1 k1)
theorem op_35 (n : Nat) : OpensF (List Itm) Tryz.prog 35 n := opens_slice Tryz.underlying35 (by kernel_rfl) (by decide +kernel) fun n _ => op_143 _
theorem op_146 (n : Nat) : OpensF Task Tryz.prog 146 n := opens_struct Tryz.underlying146 (by kernel_rfl) (fun n _ => opensL_cons (k := 1) rfl (by kernel_rfl) (opens_int Tryz.underlying3) (opensL_cons (k := 1) rfl (by kernel_rfl) (opens_int Tryz.underlying3) (opensL_cons (k := 6) rfl (by kernel_rfl) (op_66 _) (opensL_cons (k := 1) rfl (by kernel_rfl) (opens_int Tryz.underlying3) (opensL_cons (k := 1) rfl (by kernel_rfl) (opens_int Tryz.underlying3) (opensL_cons (k := 1) rfl (by kernel_rfl) (op_35 _) (opensL_cons (k := 1) rfl (by kernel_rfl) (opens_int Tryz.underlying3) (opensL_nil)))))))) (by
  rintro h avs F ⟨x0, c0, _, F0, _, rfl, rfl, ⟨rfl, rfl⟩, k0, x1, c1, _, F1, _, rfl, rfl, ⟨rfl, rfl⟩, k1, x2, c2, _, F2, _, rfl, rfl, r2, k2, x3, c3, _, F3, _, rfl, rfl, ⟨rfl, rfl⟩, k3, x4, c4, _, F4, _, rfl, rfl, ⟨rfl, rfl⟩, k4, x5, c5, _, F5, _, rfl, rfl, ⟨v5, rfl, r5⟩, k5, x6, c6, _, F6, _, rfl, rfl, ⟨rfl, rfl⟩, k6, rfl, rfl⟩
  exact mk_Task k0 k1 r2 k2 k3 k4 r5 k5 k6)
theorem op_36 (n : Nat) : OpensF (List Task) Tryz.prog 36 n := opens_slice Tryz.underlying36 (by kernel_rfl) (by decide +kernel) fun n _ => op_146 _
theorem op_149 (n : Nat) : OpensF Deed Tryz.prog 149 n := opens_struct Tryz.underlying149 (by kernel_rfl) (fun n _ => opensL_cons (k := 1) rfl (by kernel_rfl) (opens_int Tryz.underlying3) (opensL_cons (k := 1) rfl (by kernel_rfl) (opens_int Tryz.underlying3) (opensL_cons (k := 6) rfl (by kernel_rfl) (op_66 _) (opensL_cons (k := 1) rfl (by kernel_rfl) (opens_int Tryz.underlying3) (opensL_cons (k := 1) rfl (by kernel_rfl) (opens_int Tryz.underlying3) (opensL_cons (k := 1) rfl (by kernel_rfl) (opens_int Tryz.underlying3) (opensL_cons (k := 1) rfl (by kernel_rfl) (opens_bool Tryz.underlying4) (opensL_cons (k := 1) rfl (by kernel_rfl) (opens_bool Tryz.underlying4) (opensL_cons (k := 1) rfl (by kernel_rfl) (opens_int Tryz.underlying3) (opensL_cons (k := 1) rfl (by kernel_rfl) (opens_int Tryz.underlying3) (opensL_cons (k := 1) rfl (by kernel_rfl) (opens_int Tryz.underlying3) (opensL_cons (k := 1) rfl (by kernel_rfl) (opens_int Tryz.underlying3) (opensL_cons (k := 1) rfl (by kernel_rfl) (opens_int Tryz.underlying3) (opensL_cons (k := 1) rfl (by kernel_rfl) (opens_int Tryz.underlying3) (opensL_cons (k := 1) rfl (by kernel_rfl) (opens_int Tryz.underlying3) (opensL_nil)))))))))))))))) (by
  rintro h avs F ⟨x0, c0, _, F0, _, rfl, rfl, ⟨rfl, rfl⟩, k0, x1, c1, _, F1, _, rfl, rfl, ⟨rfl, rfl⟩, k1, x2, c2, _, F2, _, rfl, rfl, r2, k2, x3, c3, _, F3, _, rfl, rfl, ⟨rfl, rfl⟩, k3, x4, c4, _, F4, _, rfl, rfl, ⟨rfl, rfl⟩, k4, x5, c5, _, F5, _, rfl, rfl, ⟨rfl, rfl⟩, k5, x6, c6, _, F6, _, rfl, rfl, ⟨rfl, rfl⟩, k6, x7, c7, _, F7, _, rfl, rfl, ⟨rfl, rfl⟩, k7, x8, c8, _, F8, _, rfl, rfl, ⟨rfl, rfl⟩, k8, x9, c9, _, F9, _, rfl, rfl, ⟨rfl, rfl⟩, k9, x10, c10, _, F10, _, rfl, rfl, ⟨rfl, rfl⟩, k10, x11, c11, _, F11, _, rfl, rfl, ⟨rfl, rfl⟩, k11, x12, c12, _, F12, _, rfl, rfl, ⟨rfl, rfl⟩, k12, x13, c13, _, F13, _, rfl, rfl, ⟨rfl, rfl⟩, k13, x14, c14, _, F14, _, rfl, rfl, ⟨rfl, rfl⟩, k14, rfl, rfl⟩
  exact mk_Deed k0 k1 r2 k2 k3 k4 k5 k6 k7 k8 k9 k10 k11 k12 k13 k14)
theorem op_37 (n : Nat) : OpensF (List Deed) Tryz.prog 37 n := opens_slice Tryz.underlying37 (by kernel_rfl) (by decide +kernel) fun n _ => op_149 _
theorem op_39 (n : Nat) : OpensF Wld Tryz.prog 39 n := opens_struct Tryz.underlying39 (by kernel_rfl) (fun n _ => opensL_cons (k := 12) rfl (by kernel_rfl) (op_26 _) (opensL_cons (k := 1) rfl (by kernel_rfl) (opens_int Tryz.underlying3) (opensL_cons (k := 1) rfl (by kernel_rfl) (opens_bool Tryz.underlying4) (opensL_cons (k := 1) rfl (by kernel_rfl) (op_27 _) (opensL_cons (k := 1) rfl (by kernel_rfl) (opens_int Tryz.underlying3) (opensL_cons (k := 4) rfl (by kernel_rfl) (op_29 _) (opensL_cons (k := 1) rfl (by kernel_rfl) (op_30 _) (opensL_cons (k := 1) rfl (by kernel_rfl) (opens_int Tryz.underlying3) (opensL_cons (k := 4) rfl (by kernel_rfl) (op_34 _) (opensL_cons (k := 1) rfl (by kernel_rfl) (op_32 _) (opensL_cons (k := 1) rfl (by kernel_rfl) (op_35 _) (opensL_cons (k := 1) rfl (by kernel_rfl) (op_35 _) (opensL_cons (k := 1) rfl (by kernel_rfl) (op_36 _) (opensL_cons (k := 1) rfl (by kernel_rfl) (op_37 _) (opensL_cons (k := 1) rfl (by kernel_rfl) (opens_int Tryz.underlying3) (opensL_nil)))))))))))))))) (by
  rintro h avs F ⟨x0, c0, _, F0, _, rfl, rfl, r0, k0, x1, c1, _, F1, _, rfl, rfl, ⟨rfl, rfl⟩, k1, x2, c2, _, F2, _, rfl, rfl, ⟨rfl, rfl⟩, k2, x3, c3, _, F3, _, rfl, rfl, ⟨v3, rfl, r3⟩, k3, x4, c4, _, F4, _, rfl, rfl, ⟨rfl, rfl⟩, k4, x5, c5, _, F5, _, rfl, rfl, r5, k5, x6, c6, _, F6, _, rfl, rfl, ⟨v6, rfl, r6⟩, k6, x7, c7, _, F7, _, rfl, rfl, ⟨rfl, rfl⟩, k7, x8, c8, _, F8, _, rfl, rfl, r8, k8, x9, c9, _, F9, _, rfl, rfl, ⟨v9, rfl, r9⟩, k9, x10, c10, _, F10, _, rfl, rfl, ⟨v10, rfl, r10⟩, k10, x11, c11, _, F11, _, rfl, rfl, ⟨v11, rfl, r11⟩, k11, x12, c12, _, F12, _, rfl, rfl, ⟨v12, rfl, r12⟩, k12, x13, c13, _, F13, _, rfl, rfl, ⟨v13, rfl, r13⟩, k13, x14, c14, _, F14, _, rfl, rfl, ⟨rfl, rfl⟩, k14, rfl, rfl⟩
  exact mk_Wld r0 k0 k1 k2 r3 k3 k4 r5 k5 r6 k6 k7 r8 k8 r9 k9 r10 k10 r11 k11 r12 k12 r13 k13 k14)
end
theorem own : ownKnob Tryz.prog.godebug = none := by kernel_rfl
theorem laid : laidOutB Tryz.prog = true := by kernel_rfl
set_option maxRecDepth 100000 in
theorem lifted (os : Os) (started : os.Started) (H : Type) (enc : TypeId × Value → H) :
    ReturnsInHanded {} Tryz.checked os 5 .any (Rows.fnExactOfferSpec.pre6 enc Tryz.prog Tryz.f5 Rows.fnExactOfferRow.domain false) (Rows.fnExactOfferSpec.post enc Tryz.prog Tryz.f5 false true false false) := by
  refine returnsInHanded_of_change_sized (C := Tryz.checked) own started (by kernel_rfl) Tryz.func5
    (ChangeSpec.witness6 (enc := enc) (C := Tryz.checked) false ⟨#[], #[.agg #[.int .i64 0, .int .i64 0, .int .i64 0, .int .i64 0, .int .i64 0, .int .i64 0, .int .i64 0, .int .i64 0, .int .i64 0, .string ⟨#[]⟩, .string ⟨#[]⟩, .slice none 0 0, .int .i64 0, .bool false, .slice none 0 0, .int .i64 0, .int .i64 0, .int .i64 0, .int .i64 0, .int .i64 0, .slice none 0 0, .int .i64 0, .int .i64 0, .slice none 0 0, .slice none 0 0, .slice none 0 0, .slice none 0 0, .slice none 0 0, .slice none 0 0, .slice none 0 0, .slice none 0 0, .int .i64 0], .int .i64 0, .agg #[.int .i64 0, .int .i64 0, .int .i64 0, .int .i64 0, .bool false, .slice none 0 0]], []⟩ 20 (by kernel_rfl) (by kernel_rfl) (by kernel_rfl) (by kernel_rfl)) ?_
  intro W base args ds gs before hval0 hW hcnd hsz0 _
  have hsz : (DataW.weightsEach Tryz.prog (Tryz.f5.params.toList ++ Rows.fnExactOfferSpec.plain.varTypes Tryz.prog) (ds ++ gs)).all (· ≤ reachBytes) = true := hsz0
  have hval : ∀ (j : Nat) t v, Tryz.f5.params[j]? = some t → args[j]? = some v → Value.okWide Tryz.prog W .any base t v := hval0
  have hW' := hW
  obtain ⟨p, q, hA0, hV, rfl, hfz, hnd⟩ := hW
  have hA : DataW.TrodAll enc Tryz.prog W 0 (fun _ => true) true Tryz.f5.params.toList args.toList ds p := hA0
  rw [Tryz.params5] at hA hval hsz
  obtain ⟨rfl, rfl⟩ := trodVars_none hV
  have hlt : ∀ x ∈ p, x.block < W.heap.size := fun x hx => hW'.lt x (by simpa using hx)
  have hwt : ∀ n ∈ DataW.weightsEach Tryz.prog [39, 3, 66] ds, n ≤ reachBytes := by
    intro n hn
    have hsz' := List.all_eq_true.1 hsz n (by simpa [ChangeSpec.plain, DataSpec.varTypes, Rows.fnExactOfferSpec] using hn)
    simpa using hsz'
  have key := law_calls (P := Tryz.prog) (f := 5) (opensA_struct Tryz.underlying39 op_39 (opensA_int Tryz.underlying3 (opensA_struct Tryz.underlying66 op_66 (opensA_nil)))) (fun h avs hr => by
    obtain ⟨cs0, xs0, F0, _, rfl, r0, k0, n1, _, rfl, k1, cs2, xs2, F2, _, rfl, r2, k2, rfl⟩ := hr
    exact law_FnExactOffer r0 k0 k1 r2 k2) (fun j t v hj hv => hval j t v (by simpa using hj) (by simpa using hv)) hA hwt
  refine key.mono fun e W' ⟨he, bel⟩ => ?_
  subst he
  have hA2 := hA
  obtain ⟨u0, us0, d0, ds0, p0, q0, hargs, rfl, rfl, hT0, hR0⟩ := trodAll_cons hA2
  obtain ⟨u1, us1, d1, ds1, p1, q1, rfl, rfl, rfl, hT1, hR1⟩ := trodAll_cons hR0
  obtain ⟨u2, us2, d2, ds2, p2, q2, rfl, rfl, rfl, hT2, hR2⟩ := trodAll_cons hR1
  obtain ⟨rfl, rfl, rfl⟩ := trodAll_nil hR2
  exact ⟨_, rfl, _, _, _, [], _, [], hW', trodAll_mk1 (shut_bool Tryz.underlying4 _), trodAll_below laid bel (by kernel_rfl) hA2 hlt, rfl, bel.frame _, fun h => by cases h⟩
theorem band {a b : Bool} (ha : a = true) (hb : b = true) : (a && b) = true := by rw [ha, hb]; rfl
set_option maxHeartbeats 8000000 in
theorem facts : joinedFacts Tryz.pinned.checked.prog 5 Tryz.f5 Rows.fnExactOfferSpec Rows.fnExactOfferRow = true := by
  unfold joinedFacts
  (repeat' with_reducible refine band ?_ ?_) <;> as_aux_lemma => kernel_rfl
theorem over : Rows.fnExactOfferRow.holds Tryz.pinned (OpenSpec.ofChange Rows.fnExactOfferSpec) :=
  OpenClaim.holds_of_wide 5 Tryz.f5 rfl rfl rfl rfl rfl rfl rfl ⟨rfl, rfl, rfl, rfl, rfl⟩ rfl rfl rfl rfl rfl (by kernel_rfl) Tryz.func5 facts
    (of_decide_eq_true (by kernel_rfl)) (by unfold Func.isWrapper; first | (rw [if_pos (by decide +kernel)]; kernel_rfl) | (rw [if_neg (by decide +kernel)]; exact ⟨rfl, rfl⟩))
    (fun os started H enc _ => lifted os started H enc)
theorem proved : Rows.FnExactOfferSaid := over
#print axioms proved
end Go.Proofs.YtekfdoknfcedpaaGreat.fnExactOffer
namespace Go.Proofs.YtekfdoknfcedpaaGreat
theorem fnExactOffer_holds : Rows.FnExactOfferSaid := fnExactOffer.proved
end Go.Proofs.YtekfdoknfcedpaaGreat
