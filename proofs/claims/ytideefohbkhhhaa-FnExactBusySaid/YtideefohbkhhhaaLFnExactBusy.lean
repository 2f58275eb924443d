/- The row of FnExactBusy. -/
import Derived.Test.YtideefohbkhhhaaRows
import Derived.Test.YtideefohbkhhhaaK4
import Derived.Test.YtideefohbkhhhaaXFnExactBusy
import Derived.WalkKit
import Derived.ProofKit
import Derived.OpenShut
import Derived.SizedLaws
namespace Go.Proofs.Ytideefohbkhhhaa.fnExactBusy
open Go.ChangeShapes Go.WideShapes Go.ChangeAt Go.RowKit Go.Ab
set_option linter.unusedVariables false
section
set_option maxRecDepth 100000
theorem op_pols (n : Nat) : OpensF Pol Try.prog 24 n ∧ OpensF (List Pol) Try.prog 22 n := by
  induction n using Nat.strongRecOn with
  | ind m ih =>
    refine ⟨opens_struct Try.underlying24 (by kernel_rfl) (fun n hn => opensL_cons (k := 1) rfl (by kernel_rfl) (opens_int Try.underlying3) (opensL_cons (k := 1) rfl (by kernel_rfl) (opens_int Try.underlying3) (opensL_cons (k := 1) rfl (by kernel_rfl) (opens_str Try.underlying9) (opensL_cons (k := 1) rfl (by kernel_rfl) (opens_str Try.underlying9) (opensL_cons (k := 1) rfl (by kernel_rfl) ((ih n hn).2) (opensL_nil)))))) ?_, opens_slice Try.underlying22 (by kernel_rfl) (by decide +kernel) fun n hn => (ih n hn).1⟩
    rintro h avs F ⟨x0, c0, _, F0, _, rfl, rfl, ⟨rfl, rfl⟩, k0, x1, c1, _, F1, _, rfl, rfl, ⟨rfl, rfl⟩, k1, x2, c2, _, F2, _, rfl, rfl, ⟨rfl, rfl⟩, k2, x3, c3, _, F3, _, rfl, rfl, ⟨rfl, rfl⟩, k3, x4, c4, _, F4, _, rfl, rfl, ⟨v4, rfl, r4⟩, k4, rfl, rfl⟩
    exact mk_Pol k0 k1 k2 k3 r4 k4
theorem op_24 (n : Nat) : OpensF Pol Try.prog 24 n := (op_pols n).1
theorem op_22 (n : Nat) : OpensF (List Pol) Try.prog 22 n := (op_pols n).2
theorem op_26 (n : Nat) : OpensF Conf Try.prog 26 n := opens_struct Try.underlying26 (by kernel_rfl) (fun n _ => opensL_cons (k := 1) rfl (by kernel_rfl) (opens_int Try.underlying3) (opensL_cons (k := 1) rfl (by kernel_rfl) (opens_int Try.underlying3) (opensL_cons (k := 1) rfl (by kernel_rfl) (opens_int Try.underlying3) (opensL_cons (k := 1) rfl (by kernel_rfl) (opens_int Try.underlying3) (opensL_cons (k := 1) rfl (by kernel_rfl) (opens_int Try.underlying3) (opensL_cons (k := 1) rfl (by kernel_rfl) (opens_int Try.underlying3) (opensL_cons (k := 1) rfl (by kernel_rfl) (opens_int Try.underlying3) (opensL_cons (k := 5) rfl (by kernel_rfl) (op_24 _) (opensL_nil))))))))) (by
  rintro h avs F ⟨x0, c0, _, F0, _, rfl, rfl, ⟨rfl, rfl⟩, k0, x1, c1, _, F1, _, rfl, rfl, ⟨rfl, rfl⟩, k1, x2, c2, _, F2, _, rfl, rfl, ⟨rfl, rfl⟩, k2, x3, c3, _, F3, _, rfl, rfl, ⟨rfl, rfl⟩, k3, x4, c4, _, F4, _, rfl, rfl, ⟨rfl, rfl⟩, k4, x5, c5, _, F5, _, rfl, rfl, ⟨rfl, rfl⟩, k5, x6, c6, _, F6, _, rfl, rfl, ⟨rfl, rfl⟩, k6, x7, c7, _, F7, _, rfl, rfl, r7, k7, rfl, rfl⟩
  exact mk_Conf k0 k1 k2 k3 k4 k5 k6 r7 k7)
theorem op_193 (n : Nat) : OpensF Attr Try.prog 193 n := opens_struct Try.underlying193 (by kernel_rfl) (fun n _ => opensL_cons (k := 1) rfl (by kernel_rfl) (opens_str Try.underlying9) (opensL_cons (k := 1) rfl (by kernel_rfl) (opens_bool Try.underlying4) (opensL_cons (k := 1) rfl (by kernel_rfl) (opens_int Try.underlying3) (opensL_cons (k := 1) rfl (by kernel_rfl) (opens_str Try.underlying9) (opensL_nil))))) (by
  rintro h avs F ⟨x0, c0, _, F0, _, rfl, rfl, ⟨rfl, rfl⟩, k0, x1, c1, _, F1, _, rfl, rfl, ⟨rfl, rfl⟩, k1, x2, c2, _, F2, _, rfl, rfl, ⟨rfl, rfl⟩, k2, x3, c3, _, F3, _, rfl, rfl, ⟨rfl, rfl⟩, k3, rfl, rfl⟩
  exact mk_Attr k0 k1 k2 k3)
theorem op_121 (n : Nat) : OpensF (List Attr) Try.prog 121 n := opens_slice Try.underlying121 (by kernel_rfl) (by decide +kernel) fun n _ => op_193 _
theorem op_123 (n : Nat) : OpensF Span Try.prog 123 n := opens_struct Try.underlying123 (by kernel_rfl) (fun n _ => opensL_cons (k := 1) rfl (by kernel_rfl) (opens_int Try.underlying3) (opensL_cons (k := 1) rfl (by kernel_rfl) (opens_int Try.underlying3) (opensL_cons (k := 1) rfl (by kernel_rfl) (opens_int Try.underlying3) (opensL_cons (k := 1) rfl (by kernel_rfl) (opens_int Try.underlying3) (opensL_cons (k := 1) rfl (by kernel_rfl) (opens_bool Try.underlying4) (opensL_cons (k := 1) rfl (by kernel_rfl) (op_121 _) (opensL_nil))))))) (by
  rintro h avs F ⟨x0, c0, _, F0, _, rfl, rfl, ⟨rfl, rfl⟩, k0, x1, c1, _, F1, _, rfl, rfl, ⟨rfl, rfl⟩, k1, x2, c2, _, F2, _, rfl, rfl, ⟨rfl, rfl⟩, k2, x3, c3, _, F3, _, rfl, rfl, ⟨rfl, rfl⟩, k3, x4, c4, _, F4, _, rfl, rfl, ⟨rfl, rfl⟩, k4, x5, c5, _, F5, _, rfl, rfl, ⟨v5, rfl, r5⟩, k5, rfl, rfl⟩
  exact mk_Span k0 k1 k2 k3 k4 r5 k5)
theorem op_182 (n : Nat) : OpensF (List Span) Try.prog 182 n := opens_slice Try.underlying182 (by kernel_rfl) (by decide +kernel) fun n _ => op_123 _
theorem op_184 (n : Nat) : OpensF Trail Try.prog 184 n := opens_struct Try.underlying184 (by kernel_rfl) (fun n _ => opensL_cons (k := 1) rfl (by kernel_rfl) (opens_int Try.underlying3) (opensL_cons (k := 1) rfl (by kernel_rfl) (opens_int Try.underlying3) (opensL_cons (k := 1) rfl (by kernel_rfl) (opens_int Try.underlying3) (opensL_cons (k := 1) rfl (by kernel_rfl) (op_182 _) (opensL_nil))))) (by
  rintro h avs F ⟨x0, c0, _, F0, _, rfl, rfl, ⟨rfl, rfl⟩, k0, x1, c1, _, F1, _, rfl, rfl, ⟨rfl, rfl⟩, k1, x2, c2, _, F2, _, rfl, rfl, ⟨rfl, rfl⟩, k2, x3, c3, _, F3, _, rfl, rfl, ⟨v3, rfl, r3⟩, k3, rfl, rfl⟩
  exact mk_Trail k0 k1 k2 r3 k3)
theorem op_116 (n : Nat) : OpensF (List Trail) Try.prog 116 n := opens_slice Try.underlying116 (by kernel_rfl) (by decide +kernel) fun n _ => op_184 _
theorem op_118 (n : Nat) : OpensF Stripe Try.prog 118 n := opens_struct Try.underlying118 (by kernel_rfl) (fun n _ => opensL_cons (k := 1) rfl (by kernel_rfl) (opens_int Try.underlying3) (opensL_cons (k := 1) rfl (by kernel_rfl) (op_116 _) (opensL_nil))) (by
  rintro h avs F ⟨x0, c0, _, F0, _, rfl, rfl, ⟨rfl, rfl⟩, k0, x1, c1, _, F1, _, rfl, rfl, ⟨v1, rfl, r1⟩, k1, rfl, rfl⟩
  exact mk_Stripe k0 r1 k1)
theorem op_27 (n : Nat) : OpensF (List Stripe) Try.prog 27 n := opens_slice Try.underlying27 (by kernel_rfl) (by decide +kernel) fun n _ => op_118 _
theorem op_29 (n : Nat) : OpensF Bucket Try.prog 29 n := opens_struct Try.underlying29 (by kernel_rfl) (fun n _ => opensL_cons (k := 1) rfl (by kernel_rfl) (opens_int Try.underlying3) (opensL_cons (k := 1) rfl (by kernel_rfl) (opens_int Try.underlying3) (opensL_cons (k := 1) rfl (by kernel_rfl) (opens_int Try.underlying3) (opensL_cons (k := 1) rfl (by kernel_rfl) (opens_int Try.underlying3) (opensL_nil))))) (by
  rintro h avs F ⟨x0, c0, _, F0, _, rfl, rfl, ⟨rfl, rfl⟩, k0, x1, c1, _, F1, _, rfl, rfl, ⟨rfl, rfl⟩, k1, x2, c2, _, F2, _, rfl, rfl, ⟨rfl, rfl⟩, k2, x3, c3, _, F3, _, rfl, rfl, ⟨rfl, rfl⟩, k3, rfl, rfl⟩
  exact mk_Bucket k0 k1 k2 k3)
theorem op_136 (n : Nat) : OpensF Verdict Try.prog 136 n := opens_struct Try.underlying136 (by kernel_rfl) (fun n _ => opensL_cons (k := 1) rfl (by kernel_rfl) (opens_int Try.underlying3) (opensL_cons (k := 1) rfl (by kernel_rfl) (opens_int Try.underlying3) (opensL_cons (k := 1) rfl (by kernel_rfl) (opens_bool Try.underlying4) (opensL_nil)))) (by
  rintro h avs F ⟨x0, c0, _, F0, _, rfl, rfl, ⟨rfl, rfl⟩, k0, x1, c1, _, F1, _, rfl, rfl, ⟨rfl, rfl⟩, k1, x2, c2, _, F2, _, rfl, rfl, ⟨rfl, rfl⟩, k2, rfl, rfl⟩
  exact mk_Verdict k0 k1 k2)
theorem op_30 (n : Nat) : OpensF (List Verdict) Try.prog 30 n := opens_slice Try.underlying30 (by kernel_rfl) (by decide +kernel) fun n _ => op_136 _
theorem op_141 (n : Nat) : OpensF Ab.Timer Try.prog 141 n := opens_struct Try.underlying141 (by kernel_rfl) (fun n _ => opensL_cons (k := 1) rfl (by kernel_rfl) (opens_int Try.underlying3) (opensL_cons (k := 1) rfl (by kernel_rfl) (opens_int Try.underlying3) (opensL_cons (k := 1) rfl (by kernel_rfl) (opens_int Try.underlying3) (opensL_nil)))) (by
  rintro h avs F ⟨x0, c0, _, F0, _, rfl, rfl, ⟨rfl, rfl⟩, k0, x1, c1, _, F1, _, rfl, rfl, ⟨rfl, rfl⟩, k1, x2, c2, _, F2, _, rfl, rfl, ⟨rfl, rfl⟩, k2, rfl, rfl⟩
  exact mk_Timer k0 k1 k2)
theorem op_32 (n : Nat) : OpensF (List Ab.Timer) Try.prog 32 n := opens_slice Try.underlying32 (by kernel_rfl) (by decide +kernel) fun n _ => op_141 _
theorem op_31 (n : Nat) : OpensF (List (List Ab.Timer)) Try.prog 31 n := opens_slice Try.underlying31 (by kernel_rfl) (by decide +kernel) fun n _ => op_32 _
theorem op_34 (n : Nat) : OpensF Wheel Try.prog 34 n := opens_struct Try.underlying34 (by kernel_rfl) (fun n _ => opensL_cons (k := 1) rfl (by kernel_rfl) (opens_int Try.underlying3) (opensL_cons (k := 1) rfl (by kernel_rfl) (op_31 _) (opensL_cons (k := 1) rfl (by kernel_rfl) (op_31 _) (opensL_cons (k := 1) rfl (by kernel_rfl) (op_32 _) (opensL_nil))))) (by
  rintro h avs F ⟨x0, c0, _, F0, _, rfl, rfl, ⟨rfl, rfl⟩, k0, x1, c1, _, F1, _, rfl, rfl, ⟨v1, rfl, r1⟩, k1, x2, c2, _, F2, _, rfl, rfl, ⟨v2, rfl, r2⟩, k2, x3, c3, _, F3, _, rfl, rfl, ⟨v3, rfl, r3⟩, k3, rfl, rfl⟩
  exact mk_Wheel k0 r1 k1 r2 k2 r3 k3)
theorem op_125 (n : Nat) : OpensF Itm Try.prog 125 n := opens_struct Try.underlying125 (by kernel_rfl) (fun n _ => opensL_cons (k := 1) rfl (by kernel_rfl) (opens_int Try.underlying3) (opensL_cons (k := 6) rfl (by kernel_rfl) (op_123 _) (opensL_nil))) (by
  rintro h avs F ⟨x0, c0, _, F0, _, rfl, rfl, ⟨rfl, rfl⟩, k0, x1, c1, _, F1, _, rfl, rfl, r1, k1, rfl, rfl⟩
  exact mk_Itm k0 r1 k1)
theorem op_35 (n : Nat) : OpensF (List Itm) Try.prog 35 n := opens_slice Try.underlying35 (by kernel_rfl) (by decide +kernel) fun n _ => op_125 _
theorem op_128 (n : Nat) : OpensF Task Try.prog 128 n := opens_struct Try.underlying128 (by kernel_rfl) (fun n _ => opensL_cons (k := 1) rfl (by kernel_rfl) (opens_int Try.underlying3) (opensL_cons (k := 1) rfl (by kernel_rfl) (opens_int Try.underlying3) (opensL_cons (k := 6) rfl (by kernel_rfl) (op_123 _) (opensL_cons (k := 1) rfl (by kernel_rfl) (opens_int Try.underlying3) (opensL_cons (k := 1) rfl (by kernel_rfl) (opens_int Try.underlying3) (opensL_cons (k := 1) rfl (by kernel_rfl) (op_35 _) (opensL_cons (k := 1) rfl (by kernel_rfl) (opens_int Try.underlying3) (opensL_nil)))))))) (by
  rintro h avs F ⟨x0, c0, _, F0, _, rfl, rfl, ⟨rfl, rfl⟩, k0, x1, c1, _, F1, _, rfl, rfl, ⟨rfl, rfl⟩, k1, x2, c2, _, F2, _, rfl, rfl, r2, k2, x3, c3, _, F3, _, rfl, rfl, ⟨rfl, rfl⟩, k3, x4, c4, _, F4, _, rfl, rfl, ⟨rfl, rfl⟩, k4, x5, c5, _, F5, _, rfl, rfl, ⟨v5, rfl, r5⟩, k5, x6, c6, _, F6, _, rfl, rfl, ⟨rfl, rfl⟩, k6, rfl, rfl⟩
  exact mk_Task k0 k1 r2 k2 k3 k4 r5 k5 k6)
theorem op_36 (n : Nat) : OpensF (List Task) Try.prog 36 n := opens_slice Try.underlying36 (by kernel_rfl) (by decide +kernel) fun n _ => op_128 _
theorem op_131 (n : Nat) : OpensF Deed Try.prog 131 n := opens_struct Try.underlying131 (by kernel_rfl) (fun n _ => opensL_cons (k := 1) rfl (by kernel_rfl) (opens_int Try.underlying3) (opensL_cons (k := 1) rfl (by kernel_rfl) (opens_int Try.underlying3) (opensL_cons (k := 6) rfl (by kernel_rfl) (op_123 _) (opensL_cons (k := 1) rfl (by kernel_rfl) (opens_int Try.underlying3) (opensL_cons (k := 1) rfl (by kernel_rfl) (opens_int Try.underlying3) (opensL_cons (k := 1) rfl (by kernel_rfl) (opens_int Try.underlying3) (opensL_cons (k := 1) rfl (by kernel_rfl) (opens_bool Try.underlying4) (opensL_cons (k := 1) rfl (by kernel_rfl) (opens_bool Try.underlying4) (opensL_cons (k := 1) rfl (by kernel_rfl) (opens_int Try.underlying3) (opensL_cons (k := 1) rfl (by kernel_rfl) (opens_int Try.underlying3) (opensL_cons (k := 1) rfl (by kernel_rfl) (opens_int Try.underlying3) (opensL_cons (k := 1) rfl (by kernel_rfl) (opens_int Try.underlying3) (opensL_cons (k := 1) rfl (by kernel_rfl) (opens_int Try.underlying3) (opensL_cons (k := 1) rfl (by kernel_rfl) (opens_int Try.underlying3) (opensL_cons (k := 1) rfl (by kernel_rfl) (opens_int Try.underlying3) (opensL_nil)))))))))))))))) (by
  rintro h avs F ⟨x0, c0, _, F0, _, rfl, rfl, ⟨rfl, rfl⟩, k0, x1, c1, _, F1, _, rfl, rfl, ⟨rfl, rfl⟩, k1, x2, c2, _, F2, _, rfl, rfl, r2, k2, x3, c3, _, F3, _, rfl, rfl, ⟨rfl, rfl⟩, k3, x4, c4, _, F4, _, rfl, rfl, ⟨rfl, rfl⟩, k4, x5, c5, _, F5, _, rfl, rfl, ⟨rfl, rfl⟩, k5, x6, c6, _, F6, _, rfl, rfl, ⟨rfl, rfl⟩, k6, x7, c7, _, F7, _, rfl, rfl, ⟨rfl, rfl⟩, k7, x8, c8, _, F8, _, rfl, rfl, ⟨rfl, rfl⟩, k8, x9, c9, _, F9, _, rfl, rfl, ⟨rfl, rfl⟩, k9, x10, c10, _, F10, _, rfl, rfl, ⟨rfl, rfl⟩, k10, x11, c11, _, F11, _, rfl, rfl, ⟨rfl, rfl⟩, k11, x12, c12, _, F12, _, rfl, rfl, ⟨rfl, rfl⟩, k12, x13, c13, _, F13, _, rfl, rfl, ⟨rfl, rfl⟩, k13, x14, c14, _, F14, _, rfl, rfl, ⟨rfl, rfl⟩, k14, rfl, rfl⟩
  exact mk_Deed k0 k1 r2 k2 k3 k4 k5 k6 k7 k8 k9 k10 k11 k12 k13 k14)
theorem op_37 (n : Nat) : OpensF (List Deed) Try.prog 37 n := opens_slice Try.underlying37 (by kernel_rfl) (by decide +kernel) fun n _ => op_131 _
theorem op_39 (n : Nat) : OpensF Wld Try.prog 39 n := opens_struct Try.underlying39 (by kernel_rfl) (fun n _ => opensL_cons (k := 12) rfl (by kernel_rfl) (op_26 _) (opensL_cons (k := 1) rfl (by kernel_rfl) (opens_int Try.underlying3) (opensL_cons (k := 1) rfl (by kernel_rfl) (opens_bool Try.underlying4) (opensL_cons (k := 1) rfl (by kernel_rfl) (op_27 _) (opensL_cons (k := 1) rfl (by kernel_rfl) (opens_int Try.underlying3) (opensL_cons (k := 4) rfl (by kernel_rfl) (op_29 _) (opensL_cons (k := 1) rfl (by kernel_rfl) (op_30 _) (opensL_cons (k := 1) rfl (by kernel_rfl) (opens_int Try.underlying3) (opensL_cons (k := 4) rfl (by kernel_rfl) (op_34 _) (opensL_cons (k := 1) rfl (by kernel_rfl) (op_32 _) (opensL_cons (k := 1) rfl (by kernel_rfl) (op_35 _) (opensL_cons (k := 1) rfl (by kernel_rfl) (op_35 _) (opensL_cons (k := 1) rfl (by kernel_rfl) (op_36 _) (opensL_cons (k := 1) rfl (by kernel_rfl) (op_37 _) (opensL_cons (k := 1) rfl (by kernel_rfl) (opens_int Try.underlying3) (opensL_nil)))))))))))))))) (by
  rintro h avs F ⟨x0, c0, _, F0, _, rfl, rfl, r0, k0, x1, c1, _, F1, _, rfl, rfl, ⟨rfl, rfl⟩, k1, x2, c2, _, F2, _, rfl, rfl, ⟨rfl, rfl⟩, k2, x3, c3, _, F3, _, rfl, rfl, ⟨v3, rfl, r3⟩, k3, x4, c4, _, F4, _, rfl, rfl, ⟨rfl, rfl⟩, k4, x5, c5, _, F5, _, rfl, rfl, r5, k5, x6, c6, _, F6, _, rfl, rfl, ⟨v6, rfl, r6⟩, k6, x7, c7, _, F7, _, rfl, rfl, ⟨rfl, rfl⟩, k7, x8, c8, _, F8, _, rfl, rfl, r8, k8, x9, c9, _, F9, _, rfl, rfl, ⟨v9, rfl, r9⟩, k9, x10, c10, _, F10, _, rfl, rfl, ⟨v10, rfl, r10⟩, k10, x11, c11, _, F11, _, rfl, rfl, ⟨v11, rfl, r11⟩, k11, x12, c12, _, F12, _, rfl, rfl, ⟨v12, rfl, r12⟩, k12, x13, c13, _, F13, _, rfl, rfl, ⟨v13, rfl, r13⟩, k13, x14, c14, _, F14, _, rfl, rfl, ⟨rfl, rfl⟩, k14, rfl, rfl⟩
  exact mk_Wld r0 k0 k1 k2 r3 k3 k4 r5 k5 r6 k6 k7 r8 k8 r9 k9 r10 k10 r11 k11 r12 k12 r13 k13 k14)
end
theorem own : ownKnob Try.prog.godebug = none := by kernel_rfl
theorem laid : laidOutB Try.prog = true := by kernel_rfl
set_option maxRecDepth 100000 in
theorem lifted (os : Os) (started : os.Started) (H : Type) (enc : TypeId × Value → H) :
    ReturnsInHanded {} Try.checked os 4 .any (Rows.fnExactBusySpec.pre6 enc Try.prog Try.f4 Rows.fnExactBusyRow.domain false) (Rows.fnExactBusySpec.post enc Try.prog Try.f4 false true false false) := by
  refine returnsInHanded_of_change_sized (C := Try.checked) own started (by kernel_rfl) Try.func4
    (ChangeSpec.witness6 (enc := enc) (C := Try.checked) false ⟨#[], #[.agg #[.int .i64 0, .int .i64 0, .int .i64 0, .int .i64 0, .int .i64 0, .int .i64 0, .int .i64 0, .int .i64 0, .int .i64 0, .string ⟨#[]⟩, .string ⟨#[]⟩, .slice none 0 0, .int .i64 0, .bool false, .slice none 0 0, .int .i64 0, .int .i64 0, .int .i64 0, .int .i64 0, .int .i64 0, .slice none 0 0, .int .i64 0, .int .i64 0, .slice none 0 0, .slice none 0 0, .slice none 0 0, .slice none 0 0, .slice none 0 0, .slice none 0 0, .slice none 0 0, .slice none 0 0, .int .i64 0]], []⟩ 20 (by kernel_rfl) (by kernel_rfl) (by kernel_rfl) (by kernel_rfl)) ?_
  intro W base args ds gs before hval0 hW hcnd hsz0 _
  have hsz : (DataW.weightsEach Try.prog (Try.f4.params.toList ++ Rows.fnExactBusySpec.plain.varTypes Try.prog) (ds ++ gs)).all (· ≤ reachBytes) = true := hsz0
  have hval : ∀ (j : Nat) t v, Try.f4.params[j]? = some t → args[j]? = some v → Value.okWide Try.prog W .any base t v := hval0
  have hW' := hW
  obtain ⟨p, q, hA0, hV, rfl, hfz, hnd⟩ := hW
  have hA : DataW.TrodAll enc Try.prog W 0 (fun _ => true) true Try.f4.params.toList args.toList ds p := hA0
  rw [Try.params4] at hA hval hsz
  obtain ⟨rfl, rfl⟩ := trodVars_none hV
  have hlt : ∀ x ∈ p, x.block < W.heap.size := fun x hx => hW'.lt x (by simpa using hx)
  have hwt : ∀ n ∈ DataW.weightsEach Try.prog [39] ds, n ≤ reachBytes := by
    intro n hn
    have hsz' := List.all_eq_true.1 hsz n (by simpa [ChangeSpec.plain, DataSpec.varTypes, Rows.fnExactBusySpec] using hn)
    simpa using hsz'
  have key := law_calls (P := Try.prog) (f := 4) (opensA_struct Try.underlying39 op_39 (opensA_nil)) (fun h avs hr => by
    obtain ⟨cs0, xs0, F0, _, rfl, r0, k0, rfl⟩ := hr
    exact law_FnExactBusy r0 k0) (fun j t v hj hv => hval j t v (by simpa using hj) (by simpa using hv)) hA hwt
  refine key.mono fun e W' ⟨he, bel⟩ => ?_
  subst he
  have hA2 := hA
  obtain ⟨u0, us0, d0, ds0, p0, q0, hargs, rfl, rfl, hT0, hR0⟩ := trodAll_cons hA2
  obtain ⟨rfl, rfl, rfl⟩ := trodAll_nil hR0
  exact ⟨_, rfl, _, _, _, [], _, [], hW', trodAll_mk1 (shut_bool Try.underlying4 _), trodAll_below laid bel (by kernel_rfl) hA2 hlt, rfl, bel.frame _, fun h => by cases h⟩
theorem band {a b : Bool} (ha : a = true) (hb : b = true) : (a && b) = true := by rw [ha, hb]; rfl
set_option maxHeartbeats 8000000 in
theorem facts : joinedFacts Try.pinned.checked.prog 4 Try.f4 Rows.fnExactBusySpec Rows.fnExactBusyRow = true := by
  unfold joinedFacts
  (repeat' with_reducible refine band ?_ ?_) <;> as_aux_lemma => kernel_rfl
theorem over : Rows.fnExactBusyRow.holds Try.pinned (OpenSpec.ofChange Rows.fnExactBusySpec) :=
  OpenClaim.holds_of_wide 4 Try.f4 rfl rfl rfl rfl rfl rfl rfl ⟨rfl, rfl, rfl, rfl, rfl⟩ rfl rfl rfl rfl rfl (by kernel_rfl) Try.func4 facts
    (of_decide_eq_true (by kernel_rfl)) (by unfold Func.isWrapper; first | (rw [if_pos (by decide +kernel)]; kernel_rfl) | (rw [if_neg (by decide +kernel)]; exact ⟨rfl, rfl⟩))
    (fun os started H enc _ => lifted os started H enc)
theorem proved : Rows.FnExactBusySaid := over
#print axioms proved
end Go.Proofs.Ytideefohbkhhhaa.fnExactBusy
namespace Go.Proofs.Ytideefohbkhhhaa
/-- The row, under a short name, for the claim. -/
theorem fnExactBusy_holds : Rows.FnExactBusySaid := fnExactBusy.proved
end Go.Proofs.Ytideefohbkhhhaa
