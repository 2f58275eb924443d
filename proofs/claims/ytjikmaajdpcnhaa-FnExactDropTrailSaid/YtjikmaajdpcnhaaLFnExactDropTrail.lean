/- The row of FnExactDropTrail. -/
import Derived.Test.YtjikmaajdpcnhaaRows
import Derived.Test.YtjikmaajdpcnhaaK4
import Derived.Test.YtjikmaajdpcnhaaXFnExactDropTrail
import Derived.WalkKit
import Derived.ProofKit
import Derived.OpenShut
import Derived.SizedLaws
namespace Go.Proofs.Ytjikmaajdpcnhaa.fnExactDropTrail
open Go.ChangeShapes Go.WideShapes Go.ChangeAt Go.RowKit Go.Ab
set_option linter.unusedVariables false
section
set_option maxRecDepth 100000
theorem op_183 (n : Nat) : OpensF Attr Try.prog 183 n := opens_struct Try.underlying183 (by kernel_rfl) (fun n _ => opensL_cons (k := 1) rfl (by kernel_rfl) (opens_str Try.underlying9) (opensL_cons (k := 1) rfl (by kernel_rfl) (opens_bool Try.underlying4) (opensL_cons (k := 1) rfl (by kernel_rfl) (opens_int Try.underlying3) (opensL_cons (k := 1) rfl (by kernel_rfl) (opens_str Try.underlying9) (opensL_nil))))) (by
  rintro h avs F ⟨x0, c0, _, F0, _, rfl, rfl, ⟨rfl, rfl⟩, k0, x1, c1, _, F1, _, rfl, rfl, ⟨rfl, rfl⟩, k1, x2, c2, _, F2, _, rfl, rfl, ⟨rfl, rfl⟩, k2, x3, c3, _, F3, _, rfl, rfl, ⟨rfl, rfl⟩, k3, rfl, rfl⟩
  exact mk_Attr k0 k1 k2 k3)
theorem op_41 (n : Nat) : OpensF (List Attr) Try.prog 41 n := opens_slice Try.underlying41 (by kernel_rfl) (by decide +kernel) fun n _ => op_183 _
theorem op_43 (n : Nat) : OpensF Span Try.prog 43 n := opens_struct Try.underlying43 (by kernel_rfl) (fun n _ => opensL_cons (k := 1) rfl (by kernel_rfl) (opens_int Try.underlying3) (opensL_cons (k := 1) rfl (by kernel_rfl) (opens_int Try.underlying3) (opensL_cons (k := 1) rfl (by kernel_rfl) (opens_int Try.underlying3) (opensL_cons (k := 1) rfl (by kernel_rfl) (opens_int Try.underlying3) (opensL_cons (k := 1) rfl (by kernel_rfl) (opens_bool Try.underlying4) (opensL_cons (k := 1) rfl (by kernel_rfl) (op_41 _) (opensL_nil))))))) (by
  rintro h avs F ⟨x0, c0, _, F0, _, rfl, rfl, ⟨rfl, rfl⟩, k0, x1, c1, _, F1, _, rfl, rfl, ⟨rfl, rfl⟩, k1, x2, c2, _, F2, _, rfl, rfl, ⟨rfl, rfl⟩, k2, x3, c3, _, F3, _, rfl, rfl, ⟨rfl, rfl⟩, k3, x4, c4, _, F4, _, rfl, rfl, ⟨rfl, rfl⟩, k4, x5, c5, _, F5, _, rfl, rfl, ⟨v5, rfl, r5⟩, k5, rfl, rfl⟩
  exact mk_Span k0 k1 k2 k3 k4 r5 k5)
theorem op_150 (n : Nat) : OpensF (List Span) Try.prog 150 n := opens_slice Try.underlying150 (by kernel_rfl) (by decide +kernel) fun n _ => op_43 _
theorem op_152 (n : Nat) : OpensF Trail Try.prog 152 n := opens_struct Try.underlying152 (by kernel_rfl) (fun n _ => opensL_cons (k := 1) rfl (by kernel_rfl) (opens_int Try.underlying3) (opensL_cons (k := 1) rfl (by kernel_rfl) (opens_int Try.underlying3) (opensL_cons (k := 1) rfl (by kernel_rfl) (opens_int Try.underlying3) (opensL_cons (k := 1) rfl (by kernel_rfl) (op_150 _) (opensL_nil))))) (by
  rintro h avs F ⟨x0, c0, _, F0, _, rfl, rfl, ⟨rfl, rfl⟩, k0, x1, c1, _, F1, _, rfl, rfl, ⟨rfl, rfl⟩, k1, x2, c2, _, F2, _, rfl, rfl, ⟨rfl, rfl⟩, k2, x3, c3, _, F3, _, rfl, rfl, ⟨v3, rfl, r3⟩, k3, rfl, rfl⟩
  exact mk_Trail k0 k1 k2 r3 k3)
theorem op_101 (n : Nat) : OpensF (List Trail) Try.prog 101 n := opens_slice Try.underlying101 (by kernel_rfl) (by decide +kernel) fun n _ => op_152 _
theorem op_135 (n : Nat) : OpensF Stripe Try.prog 135 n := opens_struct Try.underlying135 (by kernel_rfl) (fun n _ => opensL_cons (k := 1) rfl (by kernel_rfl) (opens_int Try.underlying3) (opensL_cons (k := 1) rfl (by kernel_rfl) (op_101 _) (opensL_nil))) (by
  rintro h avs F ⟨x0, c0, _, F0, _, rfl, rfl, ⟨rfl, rfl⟩, k0, x1, c1, _, F1, _, rfl, rfl, ⟨v1, rfl, r1⟩, k1, rfl, rfl⟩
  exact mk_Stripe k0 r1 k1)
theorem op_66 (n : Nat) : OpensF (List Stripe) Try.prog 66 n := opens_slice Try.underlying66 (by kernel_rfl) (by decide +kernel) fun n _ => op_135 _
end
theorem own : ownKnob Try.prog.godebug = none := by kernel_rfl
theorem laid : laidOutB Try.prog = true := by kernel_rfl
set_option maxRecDepth 100000 in
theorem lifted (os : Os) (started : os.Started) (H : Type) (enc : TypeId × Value → H) :
    ReturnsInHanded {} Try.checked os 13 .any (Rows.fnExactDropTrailSpec.pre6 enc Try.prog Try.f13 Rows.fnExactDropTrailRow.domain false) (Rows.fnExactDropTrailSpec.post enc Try.prog Try.f13 false true false false) := by
  refine returnsInHanded_of_change_sized (C := Try.checked) own started (by kernel_rfl) Try.func13
    (ChangeSpec.witness6 (enc := enc) (C := Try.checked) false ⟨#[], #[.slice none 0 0, .int .i64 0], []⟩ 20 (by kernel_rfl) (by kernel_rfl) (by kernel_rfl) (by kernel_rfl)) ?_
  intro W base args ds gs before hval0 hW hcnd hsz0 _
  have hsz : (DataW.weightsEach Try.prog (Try.f13.params.toList ++ Rows.fnExactDropTrailSpec.plain.varTypes Try.prog) (ds ++ gs)).all (· ≤ reachBytes) = true := hsz0
  have hval : ∀ (j : Nat) t v, Try.f13.params[j]? = some t → args[j]? = some v → Value.okWide Try.prog W .any base t v := hval0
  have hW' := hW
  obtain ⟨p, q, hA0, hV, rfl, hfz, hnd⟩ := hW
  have hA : DataW.TrodAll enc Try.prog W 0 (fun _ => true) true Try.f13.params.toList args.toList ds p := hA0
  rw [Try.params13] at hA hval hsz
  obtain ⟨rfl, rfl⟩ := trodVars_none hV
  have hlt : ∀ x ∈ p, x.block < W.heap.size := fun x hx => hW'.lt x (by simpa using hx)
  have hwt : ∀ n ∈ DataW.weightsEach Try.prog [66, 3] ds, n ≤ reachBytes := by
    intro n hn
    have hsz' := List.all_eq_true.1 hsz n (by simpa [ChangeSpec.plain, DataSpec.varTypes, Rows.fnExactDropTrailSpec] using hn)
    simpa using hsz'
  have key := law_calls (P := Try.prog) (f := 13) (opensA_slice Try.underlying66 op_66 (opensA_int Try.underlying3 (opensA_nil))) (fun h avs hr => by
    obtain ⟨v0, xs0, F0, _, rfl, r0, k0, n1, _, rfl, k1, rfl⟩ := hr
    exact law_FnExactDropTrail r0 k0 k1) (fun j t v hj hv => hval j t v (by simpa using hj) (by simpa using hv)) hA hwt
  refine key.mono fun e W' ⟨he, bel⟩ => ?_
  subst he
  have hA2 := hA
  obtain ⟨u0, us0, d0, ds0, p0, q0, hargs, rfl, rfl, hT0, hR0⟩ := trodAll_cons hA2
  obtain ⟨u1, us1, d1, ds1, p1, q1, rfl, rfl, rfl, hT1, hR1⟩ := trodAll_cons hR0
  obtain ⟨rfl, rfl, rfl⟩ := trodAll_nil hR1
  exact ⟨_, rfl, _, _, _, [], _, [], hW', trodAll_mk1 (shut_bool Try.underlying4 _), trodAll_below laid bel (by kernel_rfl) hA2 hlt, rfl, bel.frame _, fun h => by cases h⟩
theorem over : Rows.fnExactDropTrailRow.holds Try.pinned (OpenSpec.ofChange Rows.fnExactDropTrailSpec) :=
  OpenClaim.holds_of_wide 13 Try.f13 rfl rfl rfl rfl rfl rfl rfl ⟨rfl, rfl, rfl, rfl, rfl⟩ rfl rfl rfl rfl rfl (by kernel_rfl) Try.func13 (by kernel_rfl)
    (of_decide_eq_true (by kernel_rfl)) (by unfold Func.isWrapper; first | (rw [if_pos (by decide +kernel)]; kernel_rfl) | (rw [if_neg (by decide +kernel)]; exact ⟨rfl, rfl⟩))
    (fun os started H enc _ => lifted os started H enc)
theorem proved : Rows.FnExactDropTrailSaid := over
#print axioms proved
end Go.Proofs.Ytjikmaajdpcnhaa.fnExactDropTrail
namespace Go.Proofs.Ytjikmaajdpcnhaa
/-- The row, under a short name, for the claim. -/
theorem fnExactDropTrail_holds : Rows.FnExactDropTrailSaid := fnExactDropTrail.proved
end Go.Proofs.Ytjikmaajdpcnhaa
