/- The row of FnExactAddTo. -/
import Derived.Test.YtpcgbddmdipfbaaRows
import Derived.Test.YtpcgbddmdipfbaaK4
import Derived.Test.YtpcgbddmdipfbaaXFnExactAddTo
import Derived.WalkKit
import Derived.ProofKit
import Derived.OpenShut
import Derived.SizedLaws
namespace Go.Proofs.Ytpcgbddmdipfbaa.fnExactAddTo
open Go.ChangeShapes Go.WideShapes Go.ChangeAt Go.RowKit Go.Ab
set_option linter.unusedVariables false
section
set_option maxRecDepth 100000
theorem op_191 (n : Nat) : OpensF Attr Try.prog 191 n := opens_struct Try.underlying191 (by kernel_rfl) (fun n _ => opensL_cons (k := 1) rfl (by kernel_rfl) (opens_str Try.underlying9) (opensL_cons (k := 1) rfl (by kernel_rfl) (opens_bool Try.underlying4) (opensL_cons (k := 1) rfl (by kernel_rfl) (opens_int Try.underlying3) (opensL_cons (k := 1) rfl (by kernel_rfl) (opens_str Try.underlying9) (opensL_nil))))) (by
  rintro h avs F ⟨x0, c0, _, F0, _, rfl, rfl, ⟨rfl, rfl⟩, k0, x1, c1, _, F1, _, rfl, rfl, ⟨rfl, rfl⟩, k1, x2, c2, _, F2, _, rfl, rfl, ⟨rfl, rfl⟩, k2, x3, c3, _, F3, _, rfl, rfl, ⟨rfl, rfl⟩, k3, rfl, rfl⟩
  exact mk_Attr k0 k1 k2 k3)
theorem op_34 (n : Nat) : OpensF (List Attr) Try.prog 34 n := opens_slice Try.underlying34 (by kernel_rfl) (by decide +kernel) fun n _ => op_191 _
theorem op_36 (n : Nat) : OpensF Span Try.prog 36 n := opens_struct Try.underlying36 (by kernel_rfl) (fun n _ => opensL_cons (k := 1) rfl (by kernel_rfl) (opens_int Try.underlying3) (opensL_cons (k := 1) rfl (by kernel_rfl) (opens_int Try.underlying3) (opensL_cons (k := 1) rfl (by kernel_rfl) (opens_int Try.underlying3) (opensL_cons (k := 1) rfl (by kernel_rfl) (opens_int Try.underlying3) (opensL_cons (k := 1) rfl (by kernel_rfl) (opens_bool Try.underlying4) (opensL_cons (k := 1) rfl (by kernel_rfl) (op_34 _) (opensL_nil))))))) (by
  rintro h avs F ⟨x0, c0, _, F0, _, rfl, rfl, ⟨rfl, rfl⟩, k0, x1, c1, _, F1, _, rfl, rfl, ⟨rfl, rfl⟩, k1, x2, c2, _, F2, _, rfl, rfl, ⟨rfl, rfl⟩, k2, x3, c3, _, F3, _, rfl, rfl, ⟨rfl, rfl⟩, k3, x4, c4, _, F4, _, rfl, rfl, ⟨rfl, rfl⟩, k4, x5, c5, _, F5, _, rfl, rfl, ⟨v5, rfl, r5⟩, k5, rfl, rfl⟩
  exact mk_Span k0 k1 k2 k3 k4 r5 k5)
theorem op_136 (n : Nat) : OpensF (List Span) Try.prog 136 n := opens_slice Try.underlying136 (by kernel_rfl) (by decide +kernel) fun n _ => op_36 _
theorem op_138 (n : Nat) : OpensF Trail Try.prog 138 n := opens_struct Try.underlying138 (by kernel_rfl) (fun n _ => opensL_cons (k := 1) rfl (by kernel_rfl) (opens_int Try.underlying3) (opensL_cons (k := 1) rfl (by kernel_rfl) (opens_int Try.underlying3) (opensL_cons (k := 1) rfl (by kernel_rfl) (opens_int Try.underlying3) (opensL_cons (k := 1) rfl (by kernel_rfl) (op_136 _) (opensL_nil))))) (by
  rintro h avs F ⟨x0, c0, _, F0, _, rfl, rfl, ⟨rfl, rfl⟩, k0, x1, c1, _, F1, _, rfl, rfl, ⟨rfl, rfl⟩, k1, x2, c2, _, F2, _, rfl, rfl, ⟨rfl, rfl⟩, k2, x3, c3, _, F3, _, rfl, rfl, ⟨v3, rfl, r3⟩, k3, rfl, rfl⟩
  exact mk_Trail k0 k1 k2 r3 k3)
theorem op_33 (n : Nat) : OpensF (List Trail) Try.prog 33 n := opens_slice Try.underlying33 (by kernel_rfl) (by decide +kernel) fun n _ => op_138 _
end
theorem own : ownKnob Try.prog.godebug = none := by kernel_rfl
theorem laid : laidOutB Try.prog = true := by kernel_rfl
set_option maxRecDepth 100000 in
theorem lifted (os : Os) (started : os.Started) (H : Type) (enc : TypeId × Value → H) :
    ReturnsInHanded {} Try.checked os 4 .any (Rows.fnExactAddToSpec.pre6 enc Try.prog Try.f4 Rows.fnExactAddToRow.domain false) (Rows.fnExactAddToSpec.post enc Try.prog Try.f4 false true false false) := by
  refine returnsInHanded_of_change_sized (C := Try.checked) own started (by kernel_rfl) Try.func4
    (ChangeSpec.witness6 (enc := enc) (C := Try.checked) false ⟨#[], #[.slice none 0 0, .agg #[.int .i64 0, .int .i64 0, .int .i64 0, .int .i64 0, .bool false, .slice none 0 0], .int .i64 0, .int .i64 0], []⟩ 20 (by kernel_rfl) (by kernel_rfl) (by kernel_rfl) (by kernel_rfl)) ?_
  intro W base args ds gs before hval0 hW hcnd hsz0 _
  have hsz : (DataW.weightsEach Try.prog (Try.f4.params.toList ++ Rows.fnExactAddToSpec.plain.varTypes Try.prog) (ds ++ gs)).all (· ≤ reachBytes) = true := hsz0
  have hval : ∀ (j : Nat) t v, Try.f4.params[j]? = some t → args[j]? = some v → Value.okWide Try.prog W .any base t v := hval0
  have hW' := hW
  obtain ⟨p, q, hA0, hV, rfl, hfz, hnd⟩ := hW
  have hA : DataW.TrodAll enc Try.prog W 0 (fun _ => true) true Try.f4.params.toList args.toList ds p := hA0
  rw [Try.params4] at hA hval hsz
  obtain ⟨rfl, rfl⟩ := trodVars_none hV
  have hlt : ∀ x ∈ p, x.block < W.heap.size := fun x hx => hW'.lt x (by simpa using hx)
  have hwt : ∀ n ∈ DataW.weightsEach Try.prog [33, 36, 3, 3] ds, n ≤ reachBytes := by
    intro n hn
    have hsz' := List.all_eq_true.1 hsz n (by simpa [ChangeSpec.plain, DataSpec.varTypes, Rows.fnExactAddToSpec] using hn)
    simpa using hsz'
  have key := law_calls (P := Try.prog) (f := 4) (opensA_slice Try.underlying33 op_33 (opensA_struct Try.underlying36 op_36 (opensA_int Try.underlying3 (opensA_int Try.underlying3 (opensA_nil))))) (fun h avs hr => by
    obtain ⟨v0, xs0, F0, _, rfl, r0, k0, cs1, xs1, F1, _, rfl, r1, k1, n2, _, rfl, k2, n3, _, rfl, k3, rfl⟩ := hr
    exact law_FnExactAddTo r0 k0 r1 k1 k2 k3) (fun j t v hj hv => hval j t v (by simpa using hj) (by simpa using hv)) hA hwt
  refine key.mono fun e W' ⟨he, bel⟩ => ?_
  subst he
  have hA2 := hA
  obtain ⟨u0, us0, d0, ds0, p0, q0, hargs, rfl, rfl, hT0, hR0⟩ := trodAll_cons hA2
  obtain ⟨u1, us1, d1, ds1, p1, q1, rfl, rfl, rfl, hT1, hR1⟩ := trodAll_cons hR0
  obtain ⟨u2, us2, d2, ds2, p2, q2, rfl, rfl, rfl, hT2, hR2⟩ := trodAll_cons hR1
  obtain ⟨u3, us3, d3, ds3, p3, q3, rfl, rfl, rfl, hT3, hR3⟩ := trodAll_cons hR2
  obtain ⟨rfl, rfl, rfl⟩ := trodAll_nil hR3
  exact ⟨_, rfl, _, _, _, [], _, [], hW', trodAll_mk1 (shut_bool Try.underlying4 _), trodAll_below laid bel (by kernel_rfl) hA2 hlt, rfl, bel.frame _, fun h => by cases h⟩
theorem band {a b : Bool} (ha : a = true) (hb : b = true) : (a && b) = true := by rw [ha, hb]; rfl
set_option maxHeartbeats 8000000 in
theorem facts : joinedFacts Try.pinned.checked.prog 4 Try.f4 Rows.fnExactAddToSpec Rows.fnExactAddToRow = true := by
  unfold joinedFacts
  (repeat' with_reducible refine band ?_ ?_) <;> as_aux_lemma => kernel_rfl
theorem over : Rows.fnExactAddToRow.holds Try.pinned (OpenSpec.ofChange Rows.fnExactAddToSpec) :=
  OpenClaim.holds_of_wide 4 Try.f4 rfl rfl rfl rfl rfl rfl rfl ⟨rfl, rfl, rfl, rfl, rfl⟩ rfl rfl rfl rfl rfl (by kernel_rfl) Try.func4 facts
    (of_decide_eq_true (by kernel_rfl)) (by unfold Func.isWrapper; first | (rw [if_pos (by decide +kernel)]; kernel_rfl) | (rw [if_neg (by decide +kernel)]; exact ⟨rfl, rfl⟩))
    (fun os started H enc _ => lifted os started H enc)
theorem proved : Rows.FnExactAddToSaid := over
#print axioms proved
end Go.Proofs.Ytpcgbddmdipfbaa.fnExactAddTo
namespace Go.Proofs.Ytpcgbddmdipfbaa
/-- The row, under a short name, for the claim. -/
theorem fnExactAddTo_holds : Rows.FnExactAddToSaid := fnExactAddTo.proved
end Go.Proofs.Ytpcgbddmdipfbaa
