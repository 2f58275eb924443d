/-
  NARROWER THAN 'FOR EVERY INPUT', by the rows' own cells (each row's printed sentence says how): FnExactPick: loops · FnExactAble: loops · FnExactStuck: loops.
  DERIVED. THE GIVEN ROWS OF THIS SEAT. 8 by the template 'for every input the law returns true; each argument reads behind the call as it read before'; 0 by the template 'total and deterministic' (their statements: YtkdjapahgmflbaaGreatTotals.lean).
  GIVEN WITH THE SEED: the statements are not yours to turn. If you find one false, say at which input.
  Laid BY PROGRAM, IN A SANDBOX (cutbox-rows.mjs): the forced cells as the released guide's own fill.sh prints them over the translation c4e6743451f4f33c… (all of the seat's roots in one cut). By AI agents, Wed Nov 11 2026. No macro, syntax, notation, axiom, sorry.
-/
import Derived.Test.YtkdjapahgmflbaaGreatChecked
import GoSem.Claim
import GoSem.ClaimJoined
import GoSem.ClaimMapViews
import Derived.JoinedTies
import Derived.KernelRfl
namespace Go.Proofs.YtkdjapahgmflbaaGreat
/- THE CELL 'sum', in the pinned program and in every row, IS THE sha256 OF THE DUMP (.gsa) THAT YtkdjapahgmflbaaGreatProg.lean LOADS. Nothing in Lean hashes anything: it is a label: what it is worth is what the hold of that sum in a sandbox is worth. -/
noncomputable def Tryz.pinned : Pinned := { name := "ytkdjapahgmflbaagreat", sum := "c4e6743451f4f33c987232a5386d8329f8b2d30f92b0eb36f424a4be17077b09", checked := Tryz.checked }
namespace Rows
def none {H : Type} : Left H := { results := [], args := [] }

/-- 'laws.FnExactPick': WHATEVER THE INPUT: true; the input reads as it did. -/
def fnExactPickSpec : ChangeSpec := { name := "fnExactPick", fn := fun _ => fun
  | [d1, d2] => { results := [.lit (.bool true)], args := [d1, d2] }
  | _ => none }
def fnExactPickRow : OpenClaim := { program := "ytkdjapahgmflbaagreat", sum := "c4e6743451f4f33c987232a5386d8329f8b2d30f92b0eb36f424a4be17077b09", func := "loop.example/g00488/laws.FnExactPick", spec := "fnExactPick", inPlace := ["slices.overlaps[loop.example/g00488/impl.Trail]"], unfollowed := true, recurses := true, loops := true, apart := false }
def FnExactPickSaid : Prop := fnExactPickRow.holds Tryz.pinned (OpenSpec.ofChange fnExactPickSpec)

/-- ITS FALSE NEIGHBOUR: 'it returns false'. Refute it at one input. -/
def fnExactPickWrong : ChangeSpec := { name := "fnExactPick", fn := fun _ => fun
  | [d1, d2] => { results := [.lit (.bool false)], args := [d1, d2] }
  | _ => none }
def FnExactPickWrongFalsely : Prop := fnExactPickRow.holds Tryz.pinned (OpenSpec.ofChange fnExactPickWrong)

/-- 'laws.FnExactAble': WHATEVER THE INPUT: true; the input reads as it did. -/
def fnExactAbleSpec : ChangeSpec := { name := "fnExactAble", fn := fun _ => fun
  | [d1, d2] => { results := [.lit (.bool true)], args := [d1, d2] }
  | _ => none }
def fnExactAbleRow : OpenClaim := { program := "ytkdjapahgmflbaagreat", sum := "c4e6743451f4f33c987232a5386d8329f8b2d30f92b0eb36f424a4be17077b09", func := "loop.example/g00488/laws.FnExactAble", spec := "fnExactAble", inPlace := ["slices.overlaps[loop.example/g00488/impl.Trail]"], unfollowed := true, recurses := true, loops := true, apart := false }
def FnExactAbleSaid : Prop := fnExactAbleRow.holds Tryz.pinned (OpenSpec.ofChange fnExactAbleSpec)

/-- ITS FALSE NEIGHBOUR: 'it returns false'. Refute it at one input. -/
def fnExactAbleWrong : ChangeSpec := { name := "fnExactAble", fn := fun _ => fun
  | [d1, d2] => { results := [.lit (.bool false)], args := [d1, d2] }
  | _ => none }
def FnExactAbleWrongFalsely : Prop := fnExactAbleRow.holds Tryz.pinned (OpenSpec.ofChange fnExactAbleWrong)

/-- 'laws.FnExactStuck': WHATEVER THE INPUT: true; the input reads as it did. -/
def fnExactStuckSpec : ChangeSpec := { name := "fnExactStuck", fn := fun _ => fun
  | [d] => { results := [.lit (.bool true)], args := [d] }
  | _ => none }
def fnExactStuckRow : OpenClaim := { program := "ytkdjapahgmflbaagreat", sum := "c4e6743451f4f33c987232a5386d8329f8b2d30f92b0eb36f424a4be17077b09", func := "loop.example/g00488/laws.FnExactStuck", spec := "fnExactStuck", inPlace := ["slices.overlaps[loop.example/g00488/impl.Trail]"], unfollowed := true, recurses := true, loops := true, apart := false }
def FnExactStuckSaid : Prop := fnExactStuckRow.holds Tryz.pinned (OpenSpec.ofChange fnExactStuckSpec)

/-- ITS FALSE NEIGHBOUR: 'it returns false'. Refute it at one input. -/
def fnExactStuckWrong : ChangeSpec := { name := "fnExactStuck", fn := fun _ => fun
  | [d] => { results := [.lit (.bool false)], args := [d] }
  | _ => none }
def FnExactStuckWrongFalsely : Prop := fnExactStuckRow.holds Tryz.pinned (OpenSpec.ofChange fnExactStuckWrong)

/-- 'laws.FnPicks': WHATEVER THE INPUT: true; the input reads as it did. -/
def fnPicksSpec : ChangeSpec := { name := "fnPicks", fn := fun _ => fun
  | [d] => { results := [.lit (.bool true)], args := [d] }
  | _ => none }
def fnPicksRow : OpenClaim := { program := "ytkdjapahgmflbaagreat", sum := "c4e6743451f4f33c987232a5386d8329f8b2d30f92b0eb36f424a4be17077b09", func := "loop.example/g00488/laws.FnPicks", spec := "fnPicks", inPlace := ["slices.overlaps[loop.example/g00488/impl.Trail]"], unfollowed := true, recurses := true, apart := false }
def FnPicksSaid : Prop := fnPicksRow.holds Tryz.pinned (OpenSpec.ofChange fnPicksSpec)

/-- ITS FALSE NEIGHBOUR: 'it returns false'. Refute it at one input. -/
def fnPicksWrong : ChangeSpec := { name := "fnPicks", fn := fun _ => fun
  | [d] => { results := [.lit (.bool false)], args := [d] }
  | _ => none }
def FnPicksWrongFalsely : Prop := fnPicksRow.holds Tryz.pinned (OpenSpec.ofChange fnPicksWrong)

/-- 'laws.FnNobodyStuck': WHATEVER THE INPUT: true; the input reads as it did. -/
def fnNobodyStuckSpec : ChangeSpec := { name := "fnNobodyStuck", fn := fun _ => fun
  | [d] => { results := [.lit (.bool true)], args := [d] }
  | _ => none }
def fnNobodyStuckRow : OpenClaim := { program := "ytkdjapahgmflbaagreat", sum := "c4e6743451f4f33c987232a5386d8329f8b2d30f92b0eb36f424a4be17077b09", func := "loop.example/g00488/laws.FnNobodyStuck", spec := "fnNobodyStuck", inPlace := ["slices.overlaps[loop.example/g00488/impl.Trail]"], unfollowed := true, recurses := true, apart := false }
def FnNobodyStuckSaid : Prop := fnNobodyStuckRow.holds Tryz.pinned (OpenSpec.ofChange fnNobodyStuckSpec)

/-- ITS FALSE NEIGHBOUR: 'it returns false'. Refute it at one input. -/
def fnNobodyStuckWrong : ChangeSpec := { name := "fnNobodyStuck", fn := fun _ => fun
  | [d] => { results := [.lit (.bool false)], args := [d] }
  | _ => none }
def FnNobodyStuckWrongFalsely : Prop := fnNobodyStuckRow.holds Tryz.pinned (OpenSpec.ofChange fnNobodyStuckWrong)

/-- 'laws.FnWhyNot': WHATEVER THE INPUT: true; the input reads as it did. -/
def fnWhyNotSpec : ChangeSpec := { name := "fnWhyNot", fn := fun _ => fun
  | [d] => { results := [.lit (.bool true)], args := [d] }
  | _ => none }
def fnWhyNotRow : OpenClaim := { program := "ytkdjapahgmflbaagreat", sum := "c4e6743451f4f33c987232a5386d8329f8b2d30f92b0eb36f424a4be17077b09", func := "loop.example/g00488/laws.FnWhyNot", spec := "fnWhyNot", inPlace := ["slices.overlaps[loop.example/g00488/impl.Trail]"], unfollowed := true, recurses := true, apart := false }
def FnWhyNotSaid : Prop := fnWhyNotRow.holds Tryz.pinned (OpenSpec.ofChange fnWhyNotSpec)

/-- ITS FALSE NEIGHBOUR: 'it returns false'. Refute it at one input. -/
def fnWhyNotWrong : ChangeSpec := { name := "fnWhyNot", fn := fun _ => fun
  | [d] => { results := [.lit (.bool false)], args := [d] }
  | _ => none }
def FnWhyNotWrongFalsely : Prop := fnWhyNotRow.holds Tryz.pinned (OpenSpec.ofChange fnWhyNotWrong)

/-- 'laws.FnOfferSteps': WHATEVER THE INPUT: true; the input reads as it did. -/
def fnOfferStepsSpec : ChangeSpec := { name := "fnOfferSteps", fn := fun _ => fun
  | [d] => { results := [.lit (.bool true)], args := [d] }
  | _ => none }
def fnOfferStepsRow : OpenClaim := { program := "ytkdjapahgmflbaagreat", sum := "c4e6743451f4f33c987232a5386d8329f8b2d30f92b0eb36f424a4be17077b09", func := "loop.example/g00488/laws.FnOfferSteps", spec := "fnOfferSteps", inPlace := ["slices.overlaps[loop.example/g00488/impl.Trail]"], unfollowed := true, recurses := true, apart := false }
def FnOfferStepsSaid : Prop := fnOfferStepsRow.holds Tryz.pinned (OpenSpec.ofChange fnOfferStepsSpec)

/-- ITS FALSE NEIGHBOUR: 'it returns false'. Refute it at one input. -/
def fnOfferStepsWrong : ChangeSpec := { name := "fnOfferSteps", fn := fun _ => fun
  | [d] => { results := [.lit (.bool false)], args := [d] }
  | _ => none }
def FnOfferStepsWrongFalsely : Prop := fnOfferStepsRow.holds Tryz.pinned (OpenSpec.ofChange fnOfferStepsWrong)

/-- 'laws.FnJudgeSteps': WHATEVER THE INPUT: true; the input reads as it did. -/
def fnJudgeStepsSpec : ChangeSpec := { name := "fnJudgeSteps", fn := fun _ => fun
  | [d] => { results := [.lit (.bool true)], args := [d] }
  | _ => none }
def fnJudgeStepsRow : OpenClaim := { program := "ytkdjapahgmflbaagreat", sum := "c4e6743451f4f33c987232a5386d8329f8b2d30f92b0eb36f424a4be17077b09", func := "loop.example/g00488/laws.FnJudgeSteps", spec := "fnJudgeSteps", unfollowed := true, recurses := true, apart := false }
def FnJudgeStepsSaid : Prop := fnJudgeStepsRow.holds Tryz.pinned (OpenSpec.ofChange fnJudgeStepsSpec)

/-- ITS FALSE NEIGHBOUR: 'it returns false'. Refute it at one input. -/
def fnJudgeStepsWrong : ChangeSpec := { name := "fnJudgeSteps", fn := fun _ => fun
  | [d] => { results := [.lit (.bool false)], args := [d] }
  | _ => none }
def FnJudgeStepsWrongFalsely : Prop := fnJudgeStepsRow.holds Tryz.pinned (OpenSpec.ofChange fnJudgeStepsWrong)

/- THE SECOND FORM. 'bulk': how many values and letters a reading holds, each counted each time it is reached (what is shared counts as often as it is met; a slice's spare places count too). A statement '..UptoSaid' is the law's where the arguments, and the package variables that the reading takes, are together of bulk at most 1048576: NARROWER than '..Said'. Prove '..Said' where nothing that the law and all that it calls make is longer than what came in: it says more and counts as full. Else prove '..UptoSaid'. A law counts once. -/
mutual
def uptoBulk {H : Type} : DataW H → Nat
  | .lit (.string bytes) => bytes.length + 1
  | .lit _ => 1
  | .nil => 1
  | .ptr d => uptoBulk d + 1
  | .slice elems spare => uptoBulkAll elems + uptoBulkAll spare + 1
  | .agg parts => uptoBulkAll parts + 1
  | .iface _ d => uptoBulk d + 1
  | .map entries => uptoBulkEntries entries + 1
  | .held _ => 1
def uptoBulkAll {H : Type} : List (DataW H) → Nat
  | [] => 0
  | d :: r => uptoBulk d + uptoBulkAll r
def uptoBulkEntries {H : Type} : List (Lit × DataW H) → Nat
  | [] => 0
  | x :: r => uptoBulkEntry x + uptoBulkEntries r
def uptoBulkEntry {H : Type} : Lit × DataW H → Nat
  | (.string bytes, d) => bytes.length + uptoBulk d + 1
  | (_, d) => uptoBulk d + 1
 end
def uptoSmall : (H : Type) → List (DataW H) → Bool := fun _ ds => decide (uptoBulkAll ds ≤ 1048576)
def OpenSpec.upto (s : _root_.Go.ChangeSpec) : _root_.Go.OpenSpec := { _root_.Go.OpenSpec.ofChange s with cond := some uptoSmall }

/-- 'laws.FnExactPick', WHERE WHAT IT READS IS OF BULK AT MOST 1048576: true; the input reads as it did. -/
def fnExactPickUptoRow : OpenClaim := { program := "ytkdjapahgmflbaagreat", sum := "c4e6743451f4f33c987232a5386d8329f8b2d30f92b0eb36f424a4be17077b09", func := "loop.example/g00488/laws.FnExactPick", spec := "fnExactPick", inPlace := ["slices.overlaps[loop.example/g00488/impl.Trail]"], unfollowed := true, recurses := true, loops := true, apart := false, narrowed := true }
def FnExactPickUptoSaid : Prop := fnExactPickUptoRow.holds Tryz.pinned (OpenSpec.upto fnExactPickSpec)

/-- 'laws.FnExactAble', WHERE WHAT IT READS IS OF BULK AT MOST 1048576: true; the input reads as it did. -/
def fnExactAbleUptoRow : OpenClaim := { program := "ytkdjapahgmflbaagreat", sum := "c4e6743451f4f33c987232a5386d8329f8b2d30f92b0eb36f424a4be17077b09", func := "loop.example/g00488/laws.FnExactAble", spec := "fnExactAble", inPlace := ["slices.overlaps[loop.example/g00488/impl.Trail]"], unfollowed := true, recurses := true, loops := true, apart := false, narrowed := true }
def FnExactAbleUptoSaid : Prop := fnExactAbleUptoRow.holds Tryz.pinned (OpenSpec.upto fnExactAbleSpec)

/-- 'laws.FnExactStuck', WHERE WHAT IT READS IS OF BULK AT MOST 1048576: true; the input reads as it did. -/
def fnExactStuckUptoRow : OpenClaim := { program := "ytkdjapahgmflbaagreat", sum := "c4e6743451f4f33c987232a5386d8329f8b2d30f92b0eb36f424a4be17077b09", func := "loop.example/g00488/laws.FnExactStuck", spec := "fnExactStuck", inPlace := ["slices.overlaps[loop.example/g00488/impl.Trail]"], unfollowed := true, recurses := true, loops := true, apart := false, narrowed := true }
def FnExactStuckUptoSaid : Prop := fnExactStuckUptoRow.holds Tryz.pinned (OpenSpec.upto fnExactStuckSpec)

/-- 'laws.FnPicks', WHERE WHAT IT READS IS OF BULK AT MOST 1048576: true; the input reads as it did. -/
def fnPicksUptoRow : OpenClaim := { program := "ytkdjapahgmflbaagreat", sum := "c4e6743451f4f33c987232a5386d8329f8b2d30f92b0eb36f424a4be17077b09", func := "loop.example/g00488/laws.FnPicks", spec := "fnPicks", inPlace := ["slices.overlaps[loop.example/g00488/impl.Trail]"], unfollowed := true, recurses := true, apart := false, narrowed := true }
def FnPicksUptoSaid : Prop := fnPicksUptoRow.holds Tryz.pinned (OpenSpec.upto fnPicksSpec)

/-- 'laws.FnNobodyStuck', WHERE WHAT IT READS IS OF BULK AT MOST 1048576: true; the input reads as it did. -/
def fnNobodyStuckUptoRow : OpenClaim := { program := "ytkdjapahgmflbaagreat", sum := "c4e6743451f4f33c987232a5386d8329f8b2d30f92b0eb36f424a4be17077b09", func := "loop.example/g00488/laws.FnNobodyStuck", spec := "fnNobodyStuck", inPlace := ["slices.overlaps[loop.example/g00488/impl.Trail]"], unfollowed := true, recurses := true, apart := false, narrowed := true }
def FnNobodyStuckUptoSaid : Prop := fnNobodyStuckUptoRow.holds Tryz.pinned (OpenSpec.upto fnNobodyStuckSpec)

/-- 'laws.FnWhyNot', WHERE WHAT IT READS IS OF BULK AT MOST 1048576: true; the input reads as it did. -/
def fnWhyNotUptoRow : OpenClaim := { program := "ytkdjapahgmflbaagreat", sum := "c4e6743451f4f33c987232a5386d8329f8b2d30f92b0eb36f424a4be17077b09", func := "loop.example/g00488/laws.FnWhyNot", spec := "fnWhyNot", inPlace := ["slices.overlaps[loop.example/g00488/impl.Trail]"], unfollowed := true, recurses := true, apart := false, narrowed := true }
def FnWhyNotUptoSaid : Prop := fnWhyNotUptoRow.holds Tryz.pinned (OpenSpec.upto fnWhyNotSpec)

/-- 'laws.FnOfferSteps', WHERE WHAT IT READS IS OF BULK AT MOST 1048576: true; the input reads as it did. -/
def fnOfferStepsUptoRow : OpenClaim := { program := "ytkdjapahgmflbaagreat", sum := "c4e6743451f4f33c987232a5386d8329f8b2d30f92b0eb36f424a4be17077b09", func := "loop.example/g00488/laws.FnOfferSteps", spec := "fnOfferSteps", inPlace := ["slices.overlaps[loop.example/g00488/impl.Trail]"], unfollowed := true, recurses := true, apart := false, narrowed := true }
def FnOfferStepsUptoSaid : Prop := fnOfferStepsUptoRow.holds Tryz.pinned (OpenSpec.upto fnOfferStepsSpec)

/-- 'laws.FnJudgeSteps', WHERE WHAT IT READS IS OF BULK AT MOST 1048576: true; the input reads as it did. -/
def fnJudgeStepsUptoRow : OpenClaim := { program := "ytkdjapahgmflbaagreat", sum := "c4e6743451f4f33c987232a5386d8329f8b2d30f92b0eb36f424a4be17077b09", func := "loop.example/g00488/laws.FnJudgeSteps", spec := "fnJudgeSteps", unfollowed := true, recurses := true, apart := false, narrowed := true }
def FnJudgeStepsUptoSaid : Prop := fnJudgeStepsUptoRow.holds Tryz.pinned (OpenSpec.upto fnJudgeStepsSpec)

end Rows
end Go.Proofs.YtkdjapahgmflbaaGreat
