/- The row of FnExactWorldNew. -/
import Derived.Test.YtideefohbkhhhaaRows
import Derived.Test.YtideefohbkhhhaaK4
import Derived.Test.YtideefohbkhhhaaXFnExactWorldNew
import Derived.WalkKit
import Derived.ProofKit
import Derived.OpenShut
import Derived.SizedLaws
namespace Go.Proofs.Ytideefohbkhhhaa.fnExactWorldNew
open Go.ChangeShapes Go.WideShapes Go.ChangeAt Go.RowKit Go.Ab
set_option linter.unusedVariables false
section
set_option maxRecDepth 100000
theorem op_pols (n : Nat) : OpensF Pol Try.prog 24 n ∧ OpensF (List Pol) Try.prog 22 n := by
  induction n using Nat.strongRecOn with
  | ind m ih =>
    refine ⟨opens_struct Try.underlying24 (by kernel_rfl) (fun n hn => opensL_cons (k := 1) rfl (by kernel_rfl) (opens_int Try.underlying3) (opensL_cons (k := 1) rfl (by kernel_rfl) (opens_int Try.underlying3) (opensL_cons (k := 1) rfl (by kernel_rfl) (opens_str Try.underlying9) (opensL_cons (k := 1) rfl (by kernel_rfl) (opens_str Try.underlying9) (opensL_cons (k := 1) rfl (by kernel_rfl) ((ih n hn).2) (opensL_nil)))))) ?_, opens_slice Try.underlying22 (by kernel_rfl) (by decide +kernel) fun n hn => (ih n hn).1⟩
    rintro h avs F ⟨x0, c0, _, F0, _, rfl, rfl, ⟨rfl, rfl⟩, k0, x1, c1, _, F1, _, rfl, rfl, ⟨rfl, rfl⟩, k1, x2, c2, _, F2, _, rfl, rfl, ⟨rfl, rfl⟩, k2, x3, c3, _, F3, _, rfl, rfl, ⟨rfl, rfl⟩, k3, x4, c4, _, F4, _, rfl, rfl, ⟨v4, rfl, r4⟩, k4, rfl, rfl⟩
    exact mk_Pol k0 k1 k2 k3 r4 k4
theorem op_24 (n : Nat) : OpensF Pol Try.prog 24 n := (op_pols n).1
theorem op_22 (n : Nat) : OpensF (List Pol) Try.prog 22 n := (op_pols n).2
theorem op_26 (n : Nat) : OpensF Conf Try.prog 26 n := opens_struct Try.underlying26 (by kernel_rfl) (fun n _ => opensL_cons (k := 1) rfl (by kernel_rfl) (opens_int Try.underlying3) (opensL_cons (k := 1) rfl (by kernel_rfl) (opens_int Try.underlying3) (opensL_cons (k := 1) rfl (by kernel_rfl) (opens_int Try.underlying3) (opensL_cons (k := 1) rfl (by kernel_rfl) (opens_int Try.underlying3) (opensL_cons (k := 1) rfl (by kernel_rfl) (opens_int Try.underlying3) (opensL_cons (k := 1) rfl (by kernel_rfl) (opens_int Try.underlying3) (opensL_cons (k := 1) rfl (by kernel_rfl) (opens_int Try.underlying3) (opensL_cons (k := 5) rfl (by kernel_rfl) (op_24 _) (opensL_nil))))))))) (by
  rintro h avs F ⟨x0, c0, _, F0, _, rfl, rfl, ⟨rfl, rfl⟩, k0, x1, c1, _, F1, _, rfl, rfl, ⟨rfl, rfl⟩, k1, x2, c2, _, F2, _, rfl, rfl, ⟨rfl, rfl⟩, k2, x3, c3, _, F3, _, rfl, rfl, ⟨rfl, rfl⟩, k3, x4, c4, _, F4, _, rfl, rfl, ⟨rfl, rfl⟩, k4, x5, c5, _, F5, _, rfl, rfl, ⟨rfl, rfl⟩, k5, x6, c6, _, F6, _, rfl, rfl, ⟨rfl, rfl⟩, k6, x7, c7, _, F7, _, rfl, rfl, r7, k7, rfl, rfl⟩
  exact mk_Conf k0 k1 k2 k3 k4 k5 k6 r7 k7)
end
theorem own : ownKnob Try.prog.godebug = none := by kernel_rfl
theorem laid : laidOutB Try.prog = true := by kernel_rfl
set_option maxRecDepth 100000 in
theorem lifted (os : Os) (started : os.Started) (H : Type) (enc : TypeId × Value → H) :
    ReturnsInHanded {} Try.checked os 5 .any (Rows.fnExactWorldNewSpec.pre6 enc Try.prog Try.f5 Rows.fnExactWorldNewRow.domain false) (Rows.fnExactWorldNewSpec.post enc Try.prog Try.f5 false true false false) := by
  refine returnsInHanded_of_change_sized (C := Try.checked) own started (by kernel_rfl) Try.func5
    (ChangeSpec.witness6 (enc := enc) (C := Try.checked) false ⟨#[], #[.agg #[.int .i64 0, .int .i64 0, .int .i64 0, .int .i64 0, .int .i64 0, .int .i64 0, .int .i64 0, .int .i64 0, .int .i64 0, .string ⟨#[]⟩, .string ⟨#[]⟩, .slice none 0 0]], []⟩ 20 (by kernel_rfl) (by kernel_rfl) (by kernel_rfl) (by kernel_rfl)) ?_
  intro W base args ds gs before hval0 hW hcnd hsz0 _
  have hsz : (DataW.weightsEach Try.prog (Try.f5.params.toList ++ Rows.fnExactWorldNewSpec.plain.varTypes Try.prog) (ds ++ gs)).all (· ≤ reachBytes) = true := hsz0
  have hval : ∀ (j : Nat) t v, Try.f5.params[j]? = some t → args[j]? = some v → Value.okWide Try.prog W .any base t v := hval0
  have hW' := hW
  obtain ⟨p, q, hA0, hV, rfl, hfz, hnd⟩ := hW
  have hA : DataW.TrodAll enc Try.prog W 0 (fun _ => true) true Try.f5.params.toList args.toList ds p := hA0
  rw [Try.params5] at hA hval hsz
  obtain ⟨rfl, rfl⟩ := trodVars_none hV
  have hlt : ∀ x ∈ p, x.block < W.heap.size := fun x hx => hW'.lt x (by simpa using hx)
  have hwt : ∀ n ∈ DataW.weightsEach Try.prog [26] ds, n ≤ reachBytes := by
    intro n hn
    have hsz' := List.all_eq_true.1 hsz n (by simpa [ChangeSpec.plain, DataSpec.varTypes, Rows.fnExactWorldNewSpec] using hn)
    simpa using hsz'
  have key := law_calls (P := Try.prog) (f := 5) (opensA_struct Try.underlying26 op_26 (opensA_nil)) (fun h avs hr => by
    obtain ⟨cs0, xs0, F0, _, rfl, r0, k0, rfl⟩ := hr
    exact law_FnExactWorldNew r0 k0) (fun j t v hj hv => hval j t v (by simpa using hj) (by simpa using hv)) hA hwt
  refine key.mono fun e W' ⟨he, bel⟩ => ?_
  subst he
  have hA2 := hA
  obtain ⟨u0, us0, d0, ds0, p0, q0, hargs, rfl, rfl, hT0, hR0⟩ := trodAll_cons hA2
  obtain ⟨rfl, rfl, rfl⟩ := trodAll_nil hR0
  exact ⟨_, rfl, _, _, _, [], _, [], hW', trodAll_mk1 (shut_bool Try.underlying4 _), trodAll_below laid bel (by kernel_rfl) hA2 hlt, rfl, bel.frame _, fun h => by cases h⟩
theorem band {a b : Bool} (ha : a = true) (hb : b = true) : (a && b) = true := by rw [ha, hb]; rfl
set_option maxHeartbeats 8000000 in
theorem facts : joinedFacts Try.pinned.checked.prog 5 Try.f5 Rows.fnExactWorldNewSpec Rows.fnExactWorldNewRow = true := by
  unfold joinedFacts
  (repeat' with_reducible refine band ?_ ?_) <;> as_aux_lemma => kernel_rfl
theorem over : Rows.fnExactWorldNewRow.holds Try.pinned (OpenSpec.ofChange Rows.fnExactWorldNewSpec) :=
  OpenClaim.holds_of_wide 5 Try.f5 rfl rfl rfl rfl rfl rfl rfl ⟨rfl, rfl, rfl, rfl, rfl⟩ rfl rfl rfl rfl rfl (by kernel_rfl) Try.func5 facts
    (of_decide_eq_true (by kernel_rfl)) (by unfold Func.isWrapper; first | (rw [if_pos (by decide +kernel)]; kernel_rfl) | (rw [if_neg (by decide +kernel)]; exact ⟨rfl, rfl⟩))
    (fun os started H enc _ => lifted os started H enc)
theorem proved : Rows.FnExactWorldNewSaid := over
#print axioms proved
end Go.Proofs.Ytideefohbkhhhaa.fnExactWorldNew
namespace Go.Proofs.Ytideefohbkhhhaa
/-- The row, under a short name, for the claim. -/
theorem fnExactWorldNew_holds : Rows.FnExactWorldNewSaid := fnExactWorldNew.proved
end Go.Proofs.Ytideefohbkhhhaa
