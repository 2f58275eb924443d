/- The row of FnExactRemember. -/
import Derived.Test.YtnjlcedbnkelaaaRows
import Derived.Test.YtnjlcedbnkelaaaOp
import Derived.Test.YtnjlcedbnkelaaaV8
import Derived.WalkKit
import Derived.ProofKit
import Derived.OpenShut
import Derived.SizedLaws
namespace Go.Proofs.Ytnjlcedbnkelaaa.fnExactRemember
open Go.ChangeShapes Go.WideShapes Go.ChangeAt Go.RowKit Go.Ab
set_option linter.unusedVariables false
theorem own : ownKnob Try.prog.godebug = none := by kernel_rfl
theorem laid : laidOutB Try.prog = true := by kernel_rfl
set_option maxRecDepth 100000 in
theorem lifted (os : Os) (started : os.Started) (H : Type) (enc : TypeId × Value → H) :
    ReturnsInHanded {} Try.checked os 7 .any (Rows.fnExactRememberSpec.pre6 enc Try.prog Try.f7 Rows.fnExactRememberRow.domain false) (Rows.fnExactRememberSpec.post enc Try.prog Try.f7 false true false false) := by
  refine returnsInHanded_of_change_sized (C := Try.checked) own started (by kernel_rfl) Try.func7
    (ChangeSpec.witness6 (enc := enc) (C := Try.checked) false ⟨#[], #[.slice none 0 0, .agg #[.int .i64 0, .int .i64 0, .bool false], .int .i64 0], []⟩ 20 (by kernel_rfl) (by kernel_rfl) (by kernel_rfl) (by kernel_rfl)) ?_
  intro W base args ds gs before hval0 hW hcnd hsz0 _
  have hsz : (DataW.weightsEach Try.prog (Try.f7.params.toList ++ Rows.fnExactRememberSpec.plain.varTypes Try.prog) (ds ++ gs)).all (· ≤ reachBytes) = true := hsz0
  have hval : ∀ (j : Nat) t v, Try.f7.params[j]? = some t → args[j]? = some v → Value.okWide Try.prog W .any base t v := hval0
  have hW' := hW
  obtain ⟨p, q, hA0, hV, rfl, hfz, hnd⟩ := hW
  have hA : DataW.TrodAll enc Try.prog W 0 (fun _ => true) true Try.f7.params.toList args.toList ds p := hA0
  rw [Try.params7] at hA hval hsz
  obtain ⟨rfl, rfl⟩ := trodVars_none hV
  have hlt : ∀ x ∈ p, x.block < W.heap.size := fun x hx => hW'.lt x (by simpa using hx)
  have hwt : ∀ n ∈ DataW.weightsEach Try.prog [24, 42, 3] ds, n ≤ reachBytes := by
    intro n hn
    have hsz' := List.all_eq_true.1 hsz n (by simpa [ChangeSpec.plain, DataSpec.varTypes, Rows.fnExactRememberSpec] using hn)
    simpa using hsz'
  have key := law_calls (P := Try.prog) (f := 7) (opensA_slice Try.underlying24 op_24 (opensA_struct Try.underlying42 op_42 (opensA_int Try.underlying3 (opensA_nil)))) (fun h avs hr => by
    obtain ⟨v0, xs0, F0, _, rfl, r0, k0, cs1, xs1, F1, _, rfl, r1, k1, n2, _, rfl, k2, rfl⟩ := hr
    exact law_FnExactRemember r0 k0 r1 k1 k2) (fun j t v hj hv => hval j t v (by simpa using hj) (by simpa using hv)) hA hwt
  refine key.mono fun e W' ⟨he, bel⟩ => ?_
  subst he
  have hA2 := hA
  obtain ⟨u0, us0, d0, ds0, p0, q0, hargs, rfl, rfl, hT0, hR0⟩ := trodAll_cons hA2
  obtain ⟨u1, us1, d1, ds1, p1, q1, rfl, rfl, rfl, hT1, hR1⟩ := trodAll_cons hR0
  obtain ⟨u2, us2, d2, ds2, p2, q2, rfl, rfl, rfl, hT2, hR2⟩ := trodAll_cons hR1
  obtain ⟨rfl, rfl, rfl⟩ := trodAll_nil hR2
  exact ⟨_, rfl, _, _, _, [], _, [], hW', trodAll_mk1 (shut_bool Try.underlying4 _), trodAll_below laid bel (by kernel_rfl) hA2 hlt, rfl, bel.frame _, fun h => by cases h⟩
theorem over : Rows.fnExactRememberRow.holds Try.pinned (OpenSpec.ofChange Rows.fnExactRememberSpec) :=
  OpenClaim.holds_of_wide 7 Try.f7 rfl rfl rfl rfl rfl rfl rfl ⟨rfl, rfl, rfl, rfl, rfl⟩ rfl rfl rfl rfl rfl (by kernel_rfl) Try.func7 (by kernel_rfl)
    (of_decide_eq_true (by kernel_rfl)) (by unfold Func.isWrapper; first | (rw [if_pos (by decide +kernel)]; kernel_rfl) | (rw [if_neg (by decide +kernel)]; exact ⟨rfl, rfl⟩))
    (fun os started H enc _ => lifted os started H enc)
theorem proved : Rows.FnExactRememberSaid := over
#print axioms proved
end Go.Proofs.Ytnjlcedbnkelaaa.fnExactRemember
namespace Go.Proofs.Ytnjlcedbnkelaaa
/-- The row, under a short name, for the claim. -/
theorem fnExactRemember_holds : Rows.FnExactRememberSaid := fnExactRemember.proved
end Go.Proofs.Ytnjlcedbnkelaaa
