/- The row of FnExactOpenTrails. -/
import Derived.Test.YtpcgbddmdipfbaaRows
import Derived.Test.YtpcgbddmdipfbaaK4
import Derived.Test.YtpcgbddmdipfbaaXFnExactOpenTrails
import Derived.WalkKit
import Derived.ProofKit
import Derived.OpenShut
import Derived.SizedLaws
namespace Go.Proofs.Ytpcgbddmdipfbaa.fnExactOpenTrails
open Go.ChangeShapes Go.WideShapes Go.ChangeAt Go.RowKit Go.Ab
set_option linter.unusedVariables false
section
set_option maxRecDepth 100000
theorem op_191 (n : Nat) : OpensF Attr Try.prog 191 n := opens_struct Try.underlying191 (by kernel_rfl) (fun n _ => opensL_cons (k := 1) rfl (by kernel_rfl) (opens_str Try.underlying9) (opensL_cons (k := 1) rfl (by kernel_rfl) (opens_bool Try.underlying4) (opensL_cons (k := 1) rfl (by kernel_rfl) (opens_int Try.underlying3) (opensL_cons (k := 1) rfl (by kernel_rfl) (opens_str Try.underlying9) (opensL_nil))))) (by
  rintro h avs F ⟨x0, c0, _, F0, _, rfl, rfl, ⟨rfl, rfl⟩, k0, x1, c1, _, F1, _, rfl, rfl, ⟨rfl, rfl⟩, k1, x2, c2, _, F2, _, rfl, rfl, ⟨rfl, rfl⟩, k2, x3, c3, _, F3, _, rfl, rfl, ⟨rfl, rfl⟩, k3, rfl, rfl⟩
  exact mk_Attr k0 k1 k2 k3)
theorem op_34 (n : Nat) : OpensF (List Attr) Try.prog 34 n := opens_slice Try.underlying34 (by kernel_rfl) (by decide +kernel) fun n _ => op_191 _
theorem op_36 (n : Nat) : OpensF Span Try.prog 36 n := opens_struct Try.underlying36 (by kernel_rfl) (fun n _ => opensL_cons (k := 1) rfl (by kernel_rfl) (opens_int Try.underlying3) (opensL_cons (k := 1) rfl (by kernel_rfl) (opens_int Try.underlying3) (opensL_cons (k := 1) rfl (by kernel_rfl) (opens_int Try.underlying3) (opensL_cons (k := 1) rfl (by kernel_rfl) (opens_int Try.underlying3) (opensL_cons (k := 1) rfl (by kernel_rfl) (opens_bool Try.underlying4) (opensL_cons (k := 1) rfl (by kernel_rfl) (op_34 _) (opensL_nil))))))) (by
  rintro h avs F ⟨x0, c0, _, F0, _, rfl, rfl, ⟨rfl, rfl⟩, k0, x1, c1, _, F1, _, rfl, rfl, ⟨rfl, rfl⟩, k1, x2, c2, _, F2, _, rfl, rfl, ⟨rfl, rfl⟩, k2, x3, c3, _, F3, _, rfl, rfl, ⟨rfl, rfl⟩, k3, x4, c4, _, F4, _, rfl, rfl, ⟨rfl, rfl⟩, k4, x5, c5, _, F5, _, rfl, rfl, ⟨v5, rfl, r5⟩, k5, rfl, rfl⟩
  exact mk_Span k0 k1 k2 k3 k4 r5 k5)
theorem op_136 (n : Nat) : OpensF (List Span) Try.prog 136 n := opens_slice Try.underlying136 (by kernel_rfl) (by decide +kernel) fun n _ => op_36 _
theorem op_138 (n : Nat) : OpensF Trail Try.prog 138 n := opens_struct Try.underlying138 (by kernel_rfl) (fun n _ => opensL_cons (k := 1) rfl (by kernel_rfl) (opens_int Try.underlying3) (opensL_cons (k := 1) rfl (by kernel_rfl) (opens_int Try.underlying3) (opensL_cons (k := 1) rfl (by kernel_rfl) (opens_int Try.underlying3) (opensL_cons (k := 1) rfl (by kernel_rfl) (op_136 _) (opensL_nil))))) (by
  rintro h avs F ⟨x0, c0, _, F0, _, rfl, rfl, ⟨rfl, rfl⟩, k0, x1, c1, _, F1, _, rfl, rfl, ⟨rfl, rfl⟩, k1, x2, c2, _, F2, _, rfl, rfl, ⟨rfl, rfl⟩, k2, x3, c3, _, F3, _, rfl, rfl, ⟨v3, rfl, r3⟩, k3, rfl, rfl⟩
  exact mk_Trail k0 k1 k2 r3 k3)
theorem op_33 (n : Nat) : OpensF (List Trail) Try.prog 33 n := opens_slice Try.underlying33 (by kernel_rfl) (by decide +kernel) fun n _ => op_138 _
theorem op_150 (n : Nat) : OpensF Stripe Try.prog 150 n := opens_struct Try.underlying150 (by kernel_rfl) (fun n _ => opensL_cons (k := 1) rfl (by kernel_rfl) (opens_int Try.underlying3) (opensL_cons (k := 1) rfl (by kernel_rfl) (op_33 _) (opensL_nil))) (by
  rintro h avs F ⟨x0, c0, _, F0, _, rfl, rfl, ⟨rfl, rfl⟩, k0, x1, c1, _, F1, _, rfl, rfl, ⟨v1, rfl, r1⟩, k1, rfl, rfl⟩
  exact mk_Stripe k0 r1 k1)
theorem op_51 (n : Nat) : OpensF (List Stripe) Try.prog 51 n := opens_slice Try.underlying51 (by kernel_rfl) (by decide +kernel) fun n _ => op_150 _
end
theorem own : ownKnob Try.prog.godebug = none := by kernel_rfl
theorem laid : laidOutB Try.prog = true := by kernel_rfl
set_option maxRecDepth 100000 in
theorem lifted (os : Os) (started : os.Started) (H : Type) (enc : TypeId × Value → H) :
    ReturnsInHanded {} Try.checked os 5 .any (Rows.fnExactOpenTrailsSpec.pre6 enc Try.prog Try.f5 Rows.fnExactOpenTrailsRow.domain false) (Rows.fnExactOpenTrailsSpec.post enc Try.prog Try.f5 false true false false) := by
  refine returnsInHanded_of_change_sized (C := Try.checked) own started (by kernel_rfl) Try.func5
    (ChangeSpec.witness6 (enc := enc) (C := Try.checked) false ⟨#[], #[.slice none 0 0], []⟩ 20 (by kernel_rfl) (by kernel_rfl) (by kernel_rfl) (by kernel_rfl)) ?_
  intro W base args ds gs before hval0 hW hcnd hsz0 _
  have hsz : (DataW.weightsEach Try.prog (Try.f5.params.toList ++ Rows.fnExactOpenTrailsSpec.plain.varTypes Try.prog) (ds ++ gs)).all (· ≤ reachBytes) = true := hsz0
  have hval : ∀ (j : Nat) t v, Try.f5.params[j]? = some t → args[j]? = some v → Value.okWide Try.prog W .any base t v := hval0
  have hW' := hW
  obtain ⟨p, q, hA0, hV, rfl, hfz, hnd⟩ := hW
  have hA : DataW.TrodAll enc Try.prog W 0 (fun _ => true) true Try.f5.params.toList args.toList ds p := hA0
  rw [Try.params5] at hA hval hsz
  obtain ⟨rfl, rfl⟩ := trodVars_none hV
  have hlt : ∀ x ∈ p, x.block < W.heap.size := fun x hx => hW'.lt x (by simpa using hx)
  have hwt : ∀ n ∈ DataW.weightsEach Try.prog [51] ds, n ≤ reachBytes := by
    intro n hn
    have hsz' := List.all_eq_true.1 hsz n (by simpa [ChangeSpec.plain, DataSpec.varTypes, Rows.fnExactOpenTrailsSpec] using hn)
    simpa using hsz'
  have key := law_calls (P := Try.prog) (f := 5) (opensA_slice Try.underlying51 op_51 (opensA_nil)) (fun h avs hr => by
    obtain ⟨v0, xs0, F0, _, rfl, r0, k0, rfl⟩ := hr
    exact law_FnExactOpenTrails r0 k0) (fun j t v hj hv => hval j t v (by simpa using hj) (by simpa using hv)) hA hwt
  refine key.mono fun e W' ⟨he, bel⟩ => ?_
  subst he
  have hA2 := hA
  obtain ⟨u0, us0, d0, ds0, p0, q0, hargs, rfl, rfl, hT0, hR0⟩ := trodAll_cons hA2
  obtain ⟨rfl, rfl, rfl⟩ := trodAll_nil hR0
  exact ⟨_, rfl, _, _, _, [], _, [], hW', trodAll_mk1 (shut_bool Try.underlying4 _), trodAll_below laid bel (by kernel_rfl) hA2 hlt, rfl, bel.frame _, fun h => by cases h⟩
theorem band {a b : Bool} (ha : a = true) (hb : b = true) : (a && b) = true := by rw [ha, hb]; rfl
set_option maxHeartbeats 8000000 in
theorem facts : joinedFacts Try.pinned.checked.prog 5 Try.f5 Rows.fnExactOpenTrailsSpec Rows.fnExactOpenTrailsRow = true := by
  unfold joinedFacts
  (repeat' with_reducible refine band ?_ ?_) <;> as_aux_lemma => kernel_rfl
theorem over : Rows.fnExactOpenTrailsRow.holds Try.pinned (OpenSpec.ofChange Rows.fnExactOpenTrailsSpec) :=
  OpenClaim.holds_of_wide 5 Try.f5 rfl rfl rfl rfl rfl rfl rfl ⟨rfl, rfl, rfl, rfl, rfl⟩ rfl rfl rfl rfl rfl (by kernel_rfl) Try.func5 facts
    (of_decide_eq_true (by kernel_rfl)) (by unfold Func.isWrapper; first | (rw [if_pos (by decide +kernel)]; kernel_rfl) | (rw [if_neg (by decide +kernel)]; exact ⟨rfl, rfl⟩))
    (fun os started H enc _ => lifted os started H enc)
theorem proved : Rows.FnExactOpenTrailsSaid := over
#print axioms proved
end Go.Proofs.Ytpcgbddmdipfbaa.fnExactOpenTrails
namespace Go.Proofs.Ytpcgbddmdipfbaa
/-- The row, under a short name, for the claim. -/
theorem fnExactOpenTrails_holds : Rows.FnExactOpenTrailsSaid := fnExactOpenTrails.proved
end Go.Proofs.Ytpcgbddmdipfbaa
