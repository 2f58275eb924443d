/-
  NARROWER THAN 'FOR EVERY INPUT', by the rows' own cells (each row's printed sentence says how): FnExactDeadline: loops · FnExactSameConf: loops.
  DERIVED. THE GIVEN ROWS OF THIS SEAT. 12 by the template 'for every input the law returns true; each argument reads behind the call as it read before'; 0 by the template 'total and deterministic' (their statements: YtjjaefhldldpkaaTotals.lean).
  GIVEN WITH THE SEED: the statements are not yours to turn. If you find one false, say at which input.
  Laid BY PROGRAM, IN A SANDBOX (cutbox-rows.mjs): the forced cells as the released guide's own fill.sh prints them over the translation 433888d28a0f6c02… (all of the seat's roots in one cut). By AI agents, Wed Nov 11 2026. No macro, syntax, notation, axiom, sorry.
-/
import Derived.Test.YtjjaefhldldpkaaChecked
import GoSem.Claim
import GoSem.ClaimJoined
import GoSem.ClaimMapViews
import Derived.JoinedTies
import Derived.KernelRfl
namespace Go.Proofs.Ytjjaefhldldpkaa
/- THE CELL 'sum', in the pinned program and in every row, IS THE sha256 OF THE DUMP (.gsa) THAT YtjjaefhldldpkaaProg.lean LOADS. Nothing in Lean hashes anything: it is a label: what it is worth is what the hold of that sum in a sandbox is worth. -/
noncomputable def Try.pinned : Pinned := { name := "ytjjaefhldldpkaa", sum := "433888d28a0f6c0221ffa48b44e2e9f07e978fafe649e0407807d2071f1fdf7b", checked := Try.checked }
namespace Rows
def none {H : Type} : Left H := { results := [], args := [] }

/-- 'laws.FnExactDeadline': WHATEVER THE INPUT: true; the input reads as it did. -/
def fnExactDeadlineSpec : ChangeSpec := { name := "fnExactDeadline", fn := fun _ => fun
  | [d1, d2] => { results := [.lit (.bool true)], args := [d1, d2] }
  | _ => none }
def fnExactDeadlineRow : OpenClaim := { program := "ytjjaefhldldpkaa", sum := "433888d28a0f6c0221ffa48b44e2e9f07e978fafe649e0407807d2071f1fdf7b", func := "loop.example/g00488/laws.FnExactDeadline", spec := "fnExactDeadline", recurses := true, loops := true, apart := false }
def FnExactDeadlineSaid : Prop := fnExactDeadlineRow.holds Try.pinned (OpenSpec.ofChange fnExactDeadlineSpec)

/-- ITS FALSE NEIGHBOUR: 'it returns false'. Refute it at one input. -/
def fnExactDeadlineWrong : ChangeSpec := { name := "fnExactDeadline", fn := fun _ => fun
  | [d1, d2] => { results := [.lit (.bool false)], args := [d1, d2] }
  | _ => none }
def FnExactDeadlineWrongFalsely : Prop := fnExactDeadlineRow.holds Try.pinned (OpenSpec.ofChange fnExactDeadlineWrong)

/-- 'laws.FnExactSameConf': WHATEVER THE INPUT: true; the input reads as it did. -/
def fnExactSameConfSpec : ChangeSpec := { name := "fnExactSameConf", fn := fun _ => fun
  | [d1, d2] => { results := [.lit (.bool true)], args := [d1, d2] }
  | _ => none }
def fnExactSameConfRow : OpenClaim := { program := "ytjjaefhldldpkaa", sum := "433888d28a0f6c0221ffa48b44e2e9f07e978fafe649e0407807d2071f1fdf7b", func := "loop.example/g00488/laws.FnExactSameConf", spec := "fnExactSameConf", unfollowed := true, recurses := true, loops := true, apart := false }
def FnExactSameConfSaid : Prop := fnExactSameConfRow.holds Try.pinned (OpenSpec.ofChange fnExactSameConfSpec)

/-- ITS FALSE NEIGHBOUR: 'it returns false'. Refute it at one input. -/
def fnExactSameConfWrong : ChangeSpec := { name := "fnExactSameConf", fn := fun _ => fun
  | [d1, d2] => { results := [.lit (.bool false)], args := [d1, d2] }
  | _ => none }
def FnExactSameConfWrongFalsely : Prop := fnExactSameConfRow.holds Try.pinned (OpenSpec.ofChange fnExactSameConfWrong)

/-- 'laws.FnExactSameItem': WHATEVER THE INPUT: true; the input reads as it did. -/
def fnExactSameItemSpec : ChangeSpec := { name := "fnExactSameItem", fn := fun _ => fun
  | [d1, d2] => { results := [.lit (.bool true)], args := [d1, d2] }
  | _ => none }
def fnExactSameItemRow : OpenClaim := { program := "ytjjaefhldldpkaa", sum := "433888d28a0f6c0221ffa48b44e2e9f07e978fafe649e0407807d2071f1fdf7b", func := "loop.example/g00488/laws.FnExactSameItem", spec := "fnExactSameItem", apart := false }
def FnExactSameItemSaid : Prop := fnExactSameItemRow.holds Try.pinned (OpenSpec.ofChange fnExactSameItemSpec)

/-- ITS FALSE NEIGHBOUR: 'it returns false'. Refute it at one input. -/
def fnExactSameItemWrong : ChangeSpec := { name := "fnExactSameItem", fn := fun _ => fun
  | [d1, d2] => { results := [.lit (.bool false)], args := [d1, d2] }
  | _ => none }
def FnExactSameItemWrongFalsely : Prop := fnExactSameItemRow.holds Try.pinned (OpenSpec.ofChange fnExactSameItemWrong)

/-- 'laws.FnExactAhead': WHATEVER THE INPUT: true; the input reads as it did. -/
def fnExactAheadSpec : ChangeSpec := { name := "fnExactAhead", fn := fun _ => fun
  | [d1, d2] => { results := [.lit (.bool true)], args := [d1, d2] }
  | _ => none }
def fnExactAheadRow : OpenClaim := { program := "ytjjaefhldldpkaa", sum := "433888d28a0f6c0221ffa48b44e2e9f07e978fafe649e0407807d2071f1fdf7b", func := "loop.example/g00488/laws.FnExactAhead", spec := "fnExactAhead", apart := false }
def FnExactAheadSaid : Prop := fnExactAheadRow.holds Try.pinned (OpenSpec.ofChange fnExactAheadSpec)

/-- ITS FALSE NEIGHBOUR: 'it returns false'. Refute it at one input. -/
def fnExactAheadWrong : ChangeSpec := { name := "fnExactAhead", fn := fun _ => fun
  | [d1, d2] => { results := [.lit (.bool false)], args := [d1, d2] }
  | _ => none }
def FnExactAheadWrongFalsely : Prop := fnExactAheadRow.holds Try.pinned (OpenSpec.ofChange fnExactAheadWrong)

/-- 'laws.FnCaches': WHATEVER THE INPUT: true; the input reads as it did. -/
def fnCachesSpec : ChangeSpec := { name := "fnCaches", fn := fun _ => fun
  | [d] => { results := [.lit (.bool true)], args := [d] }
  | _ => none }
def fnCachesRow : OpenClaim := { program := "ytjjaefhldldpkaa", sum := "433888d28a0f6c0221ffa48b44e2e9f07e978fafe649e0407807d2071f1fdf7b", func := "loop.example/g00488/laws.FnCaches", spec := "fnCaches", unfollowed := true, recurses := true, apart := false }
def FnCachesSaid : Prop := fnCachesRow.holds Try.pinned (OpenSpec.ofChange fnCachesSpec)

/-- ITS FALSE NEIGHBOUR: 'it returns false'. Refute it at one input. -/
def fnCachesWrong : ChangeSpec := { name := "fnCaches", fn := fun _ => fun
  | [d] => { results := [.lit (.bool false)], args := [d] }
  | _ => none }
def FnCachesWrongFalsely : Prop := fnCachesRow.holds Try.pinned (OpenSpec.ofChange fnCachesWrong)

/-- 'laws.FnExactDeedOk': WHATEVER THE INPUT: true; the input reads as it did. -/
def fnExactDeedOkSpec : ChangeSpec := { name := "fnExactDeedOk", fn := fun _ => fun
  | [d] => { results := [.lit (.bool true)], args := [d] }
  | _ => none }
def fnExactDeedOkRow : OpenClaim := { program := "ytjjaefhldldpkaa", sum := "433888d28a0f6c0221ffa48b44e2e9f07e978fafe649e0407807d2071f1fdf7b", func := "loop.example/g00488/laws.FnExactDeedOk", spec := "fnExactDeedOk", apart := false }
def FnExactDeedOkSaid : Prop := fnExactDeedOkRow.holds Try.pinned (OpenSpec.ofChange fnExactDeedOkSpec)

/-- ITS FALSE NEIGHBOUR: 'it returns false'. Refute it at one input. -/
def fnExactDeedOkWrong : ChangeSpec := { name := "fnExactDeedOk", fn := fun _ => fun
  | [d] => { results := [.lit (.bool false)], args := [d] }
  | _ => none }
def FnExactDeedOkWrongFalsely : Prop := fnExactDeedOkRow.holds Try.pinned (OpenSpec.ofChange fnExactDeedOkWrong)

/-- 'laws.FnExactHoldsRule': WHATEVER THE INPUT: true; the input reads as it did. -/
def fnExactHoldsRuleSpec : ChangeSpec := { name := "fnExactHoldsRule", fn := fun _ => fun
  | [d] => { results := [.lit (.bool true)], args := [d] }
  | _ => none }
def fnExactHoldsRuleRow : OpenClaim := { program := "ytjjaefhldldpkaa", sum := "433888d28a0f6c0221ffa48b44e2e9f07e978fafe649e0407807d2071f1fdf7b", func := "loop.example/g00488/laws.FnExactHoldsRule", spec := "fnExactHoldsRule", apart := false }
def FnExactHoldsRuleSaid : Prop := fnExactHoldsRuleRow.holds Try.pinned (OpenSpec.ofChange fnExactHoldsRuleSpec)

/-- ITS FALSE NEIGHBOUR: 'it returns false'. Refute it at one input. -/
def fnExactHoldsRuleWrong : ChangeSpec := { name := "fnExactHoldsRule", fn := fun _ => fun
  | [d] => { results := [.lit (.bool false)], args := [d] }
  | _ => none }
def FnExactHoldsRuleWrongFalsely : Prop := fnExactHoldsRuleRow.holds Try.pinned (OpenSpec.ofChange fnExactHoldsRuleWrong)

/-- 'laws.FnExactBytesOf': WHATEVER THE INPUT: true; the input reads as it did. -/
def fnExactBytesOfSpec : ChangeSpec := { name := "fnExactBytesOf", fn := fun _ => fun
  | [d] => { results := [.lit (.bool true)], args := [d] }
  | _ => none }
def fnExactBytesOfRow : OpenClaim := { program := "ytjjaefhldldpkaa", sum := "433888d28a0f6c0221ffa48b44e2e9f07e978fafe649e0407807d2071f1fdf7b", func := "loop.example/g00488/laws.FnExactBytesOf", spec := "fnExactBytesOf", apart := false }
def FnExactBytesOfSaid : Prop := fnExactBytesOfRow.holds Try.pinned (OpenSpec.ofChange fnExactBytesOfSpec)

/-- ITS FALSE NEIGHBOUR: 'it returns false'. Refute it at one input. -/
def fnExactBytesOfWrong : ChangeSpec := { name := "fnExactBytesOf", fn := fun _ => fun
  | [d] => { results := [.lit (.bool false)], args := [d] }
  | _ => none }
def FnExactBytesOfWrongFalsely : Prop := fnExactBytesOfRow.holds Try.pinned (OpenSpec.ofChange fnExactBytesOfWrong)

/-- 'laws.FnExactSameDeed': WHATEVER THE INPUT: true; the input reads as it did. -/
def fnExactSameDeedSpec : ChangeSpec := { name := "fnExactSameDeed", fn := fun _ => fun
  | [d1, d2] => { results := [.lit (.bool true)], args := [d1, d2] }
  | _ => none }
def fnExactSameDeedRow : OpenClaim := { program := "ytjjaefhldldpkaa", sum := "433888d28a0f6c0221ffa48b44e2e9f07e978fafe649e0407807d2071f1fdf7b", func := "loop.example/g00488/laws.FnExactSameDeed", spec := "fnExactSameDeed", apart := false }
def FnExactSameDeedSaid : Prop := fnExactSameDeedRow.holds Try.pinned (OpenSpec.ofChange fnExactSameDeedSpec)

/-- ITS FALSE NEIGHBOUR: 'it returns false'. Refute it at one input. -/
def fnExactSameDeedWrong : ChangeSpec := { name := "fnExactSameDeed", fn := fun _ => fun
  | [d1, d2] => { results := [.lit (.bool false)], args := [d1, d2] }
  | _ => none }
def FnExactSameDeedWrongFalsely : Prop := fnExactSameDeedRow.holds Try.pinned (OpenSpec.ofChange fnExactSameDeedWrong)

/-- 'laws.FnExactTrailAt': WHATEVER THE INPUT: true; the input reads as it did. -/
def fnExactTrailAtSpec : ChangeSpec := { name := "fnExactTrailAt", fn := fun _ => fun
  | [d1, d2] => { results := [.lit (.bool true)], args := [d1, d2] }
  | _ => none }
def fnExactTrailAtRow : OpenClaim := { program := "ytjjaefhldldpkaa", sum := "433888d28a0f6c0221ffa48b44e2e9f07e978fafe649e0407807d2071f1fdf7b", func := "loop.example/g00488/laws.FnExactTrailAt", spec := "fnExactTrailAt", unfollowed := true, recurses := true, apart := false }
def FnExactTrailAtSaid : Prop := fnExactTrailAtRow.holds Try.pinned (OpenSpec.ofChange fnExactTrailAtSpec)

/-- ITS FALSE NEIGHBOUR: 'it returns false'. Refute it at one input. -/
def fnExactTrailAtWrong : ChangeSpec := { name := "fnExactTrailAt", fn := fun _ => fun
  | [d1, d2] => { results := [.lit (.bool false)], args := [d1, d2] }
  | _ => none }
def FnExactTrailAtWrongFalsely : Prop := fnExactTrailAtRow.holds Try.pinned (OpenSpec.ofChange fnExactTrailAtWrong)

/-- 'laws.FnExactSameTrail': WHATEVER THE INPUT: true; the input reads as it did. -/
def fnExactSameTrailSpec : ChangeSpec := { name := "fnExactSameTrail", fn := fun _ => fun
  | [d1, d2] => { results := [.lit (.bool true)], args := [d1, d2] }
  | _ => none }
def fnExactSameTrailRow : OpenClaim := { program := "ytjjaefhldldpkaa", sum := "433888d28a0f6c0221ffa48b44e2e9f07e978fafe649e0407807d2071f1fdf7b", func := "loop.example/g00488/laws.FnExactSameTrail", spec := "fnExactSameTrail", unfollowed := true, recurses := true, apart := false }
def FnExactSameTrailSaid : Prop := fnExactSameTrailRow.holds Try.pinned (OpenSpec.ofChange fnExactSameTrailSpec)

/-- ITS FALSE NEIGHBOUR: 'it returns false'. Refute it at one input. -/
def fnExactSameTrailWrong : ChangeSpec := { name := "fnExactSameTrail", fn := fun _ => fun
  | [d1, d2] => { results := [.lit (.bool false)], args := [d1, d2] }
  | _ => none }
def FnExactSameTrailWrongFalsely : Prop := fnExactSameTrailRow.holds Try.pinned (OpenSpec.ofChange fnExactSameTrailWrong)

/-- 'laws.FnExactItemOk': WHATEVER THE INPUT: true; the input reads as it did. -/
def fnExactItemOkSpec : ChangeSpec := { name := "fnExactItemOk", fn := fun _ => fun
  | [d] => { results := [.lit (.bool true)], args := [d] }
  | _ => none }
def fnExactItemOkRow : OpenClaim := { program := "ytjjaefhldldpkaa", sum := "433888d28a0f6c0221ffa48b44e2e9f07e978fafe649e0407807d2071f1fdf7b", func := "loop.example/g00488/laws.FnExactItemOk", spec := "fnExactItemOk", apart := false }
def FnExactItemOkSaid : Prop := fnExactItemOkRow.holds Try.pinned (OpenSpec.ofChange fnExactItemOkSpec)

/-- ITS FALSE NEIGHBOUR: 'it returns false'. Refute it at one input. -/
def fnExactItemOkWrong : ChangeSpec := { name := "fnExactItemOk", fn := fun _ => fun
  | [d] => { results := [.lit (.bool false)], args := [d] }
  | _ => none }
def FnExactItemOkWrongFalsely : Prop := fnExactItemOkRow.holds Try.pinned (OpenSpec.ofChange fnExactItemOkWrong)

/- THE SECOND FORM. 'bulk': how many values and letters a reading holds, each counted each time it is reached (what is shared counts as often as it is met; a slice's spare places count too). A statement '..UptoSaid' is the law's where the arguments, and the package variables that the reading takes, are together of bulk at most 1048576: NARROWER than '..Said'. Prove '..Said' where nothing that the law and all that it calls make is longer than what came in: it says more and counts as full. Else prove '..UptoSaid'. A law counts once. -/
mutual
def uptoBulk {H : Type} : DataW H → Nat
  | .lit (.string bytes) => bytes.length + 1
  | .lit _ => 1
  | .nil => 1
  | .ptr d => uptoBulk d + 1
  | .slice elems spare => uptoBulkAll elems + uptoBulkAll spare + 1
  | .agg parts => uptoBulkAll parts + 1
  | .iface _ d => uptoBulk d + 1
  | .map entries => uptoBulkEntries entries + 1
  | .held _ => 1
def uptoBulkAll {H : Type} : List (DataW H) → Nat
  | [] => 0
  | d :: r => uptoBulk d + uptoBulkAll r
def uptoBulkEntries {H : Type} : List (Lit × DataW H) → Nat
  | [] => 0
  | x :: r => uptoBulkEntry x + uptoBulkEntries r
def uptoBulkEntry {H : Type} : Lit × DataW H → Nat
  | (.string bytes, d) => bytes.length + uptoBulk d + 1
  | (_, d) => uptoBulk d + 1
 end
def uptoSmall : (H : Type) → List (DataW H) → Bool := fun _ ds => decide (uptoBulkAll ds ≤ 1048576)
def OpenSpec.upto (s : _root_.Go.ChangeSpec) : _root_.Go.OpenSpec := { _root_.Go.OpenSpec.ofChange s with cond := some uptoSmall }

/-- 'laws.FnExactDeadline', WHERE WHAT IT READS IS OF BULK AT MOST 1048576: true; the input reads as it did. -/
def fnExactDeadlineUptoRow : OpenClaim := { program := "ytjjaefhldldpkaa", sum := "433888d28a0f6c0221ffa48b44e2e9f07e978fafe649e0407807d2071f1fdf7b", func := "loop.example/g00488/laws.FnExactDeadline", spec := "fnExactDeadline", recurses := true, loops := true, apart := false, narrowed := true }
def FnExactDeadlineUptoSaid : Prop := fnExactDeadlineUptoRow.holds Try.pinned (OpenSpec.upto fnExactDeadlineSpec)

/-- 'laws.FnExactSameConf', WHERE WHAT IT READS IS OF BULK AT MOST 1048576: true; the input reads as it did. -/
def fnExactSameConfUptoRow : OpenClaim := { program := "ytjjaefhldldpkaa", sum := "433888d28a0f6c0221ffa48b44e2e9f07e978fafe649e0407807d2071f1fdf7b", func := "loop.example/g00488/laws.FnExactSameConf", spec := "fnExactSameConf", unfollowed := true, recurses := true, loops := true, apart := false, narrowed := true }
def FnExactSameConfUptoSaid : Prop := fnExactSameConfUptoRow.holds Try.pinned (OpenSpec.upto fnExactSameConfSpec)

/-- 'laws.FnExactSameItem', WHERE WHAT IT READS IS OF BULK AT MOST 1048576: true; the input reads as it did. -/
def fnExactSameItemUptoRow : OpenClaim := { program := "ytjjaefhldldpkaa", sum := "433888d28a0f6c0221ffa48b44e2e9f07e978fafe649e0407807d2071f1fdf7b", func := "loop.example/g00488/laws.FnExactSameItem", spec := "fnExactSameItem", apart := false, narrowed := true }
def FnExactSameItemUptoSaid : Prop := fnExactSameItemUptoRow.holds Try.pinned (OpenSpec.upto fnExactSameItemSpec)

/-- 'laws.FnExactAhead', WHERE WHAT IT READS IS OF BULK AT MOST 1048576: true; the input reads as it did. -/
def fnExactAheadUptoRow : OpenClaim := { program := "ytjjaefhldldpkaa", sum := "433888d28a0f6c0221ffa48b44e2e9f07e978fafe649e0407807d2071f1fdf7b", func := "loop.example/g00488/laws.FnExactAhead", spec := "fnExactAhead", apart := false, narrowed := true }
def FnExactAheadUptoSaid : Prop := fnExactAheadUptoRow.holds Try.pinned (OpenSpec.upto fnExactAheadSpec)

/-- 'laws.FnCaches', WHERE WHAT IT READS IS OF BULK AT MOST 1048576: true; the input reads as it did. -/
def fnCachesUptoRow : OpenClaim := { program := "ytjjaefhldldpkaa", sum := "433888d28a0f6c0221ffa48b44e2e9f07e978fafe649e0407807d2071f1fdf7b", func := "loop.example/g00488/laws.FnCaches", spec := "fnCaches", unfollowed := true, recurses := true, apart := false, narrowed := true }
def FnCachesUptoSaid : Prop := fnCachesUptoRow.holds Try.pinned (OpenSpec.upto fnCachesSpec)

/-- 'laws.FnExactDeedOk', WHERE WHAT IT READS IS OF BULK AT MOST 1048576: true; the input reads as it did. -/
def fnExactDeedOkUptoRow : OpenClaim := { program := "ytjjaefhldldpkaa", sum := "433888d28a0f6c0221ffa48b44e2e9f07e978fafe649e0407807d2071f1fdf7b", func := "loop.example/g00488/laws.FnExactDeedOk", spec := "fnExactDeedOk", apart := false, narrowed := true }
def FnExactDeedOkUptoSaid : Prop := fnExactDeedOkUptoRow.holds Try.pinned (OpenSpec.upto fnExactDeedOkSpec)

/-- 'laws.FnExactHoldsRule', WHERE WHAT IT READS IS OF BULK AT MOST 1048576: true; the input reads as it did. -/
def fnExactHoldsRuleUptoRow : OpenClaim := { program := "ytjjaefhldldpkaa", sum := "433888d28a0f6c0221ffa48b44e2e9f07e978fafe649e0407807d2071f1fdf7b", func := "loop.example/g00488/laws.FnExactHoldsRule", spec := "fnExactHoldsRule", apart := false, narrowed := true }
def FnExactHoldsRuleUptoSaid : Prop := fnExactHoldsRuleUptoRow.holds Try.pinned (OpenSpec.upto fnExactHoldsRuleSpec)

/-- 'laws.FnExactBytesOf', WHERE WHAT IT READS IS OF BULK AT MOST 1048576: true; the input reads as it did. -/
def fnExactBytesOfUptoRow : OpenClaim := { program := "ytjjaefhldldpkaa", sum := "433888d28a0f6c0221ffa48b44e2e9f07e978fafe649e0407807d2071f1fdf7b", func := "loop.example/g00488/laws.FnExactBytesOf", spec := "fnExactBytesOf", apart := false, narrowed := true }
def FnExactBytesOfUptoSaid : Prop := fnExactBytesOfUptoRow.holds Try.pinned (OpenSpec.upto fnExactBytesOfSpec)

/-- 'laws.FnExactSameDeed', WHERE WHAT IT READS IS OF BULK AT MOST 1048576: true; the input reads as it did. -/
def fnExactSameDeedUptoRow : OpenClaim := { program := "ytjjaefhldldpkaa", sum := "433888d28a0f6c0221ffa48b44e2e9f07e978fafe649e0407807d2071f1fdf7b", func := "loop.example/g00488/laws.FnExactSameDeed", spec := "fnExactSameDeed", apart := false, narrowed := true }
def FnExactSameDeedUptoSaid : Prop := fnExactSameDeedUptoRow.holds Try.pinned (OpenSpec.upto fnExactSameDeedSpec)

/-- 'laws.FnExactTrailAt', WHERE WHAT IT READS IS OF BULK AT MOST 1048576: true; the input reads as it did. -/
def fnExactTrailAtUptoRow : OpenClaim := { program := "ytjjaefhldldpkaa", sum := "433888d28a0f6c0221ffa48b44e2e9f07e978fafe649e0407807d2071f1fdf7b", func := "loop.example/g00488/laws.FnExactTrailAt", spec := "fnExactTrailAt", unfollowed := true, recurses := true, apart := false, narrowed := true }
def FnExactTrailAtUptoSaid : Prop := fnExactTrailAtUptoRow.holds Try.pinned (OpenSpec.upto fnExactTrailAtSpec)

/-- 'laws.FnExactSameTrail', WHERE WHAT IT READS IS OF BULK AT MOST 1048576: true; the input reads as it did. -/
def fnExactSameTrailUptoRow : OpenClaim := { program := "ytjjaefhldldpkaa", sum := "433888d28a0f6c0221ffa48b44e2e9f07e978fafe649e0407807d2071f1fdf7b", func := "loop.example/g00488/laws.FnExactSameTrail", spec := "fnExactSameTrail", unfollowed := true, recurses := true, apart := false, narrowed := true }
def FnExactSameTrailUptoSaid : Prop := fnExactSameTrailUptoRow.holds Try.pinned (OpenSpec.upto fnExactSameTrailSpec)

/-- 'laws.FnExactItemOk', WHERE WHAT IT READS IS OF BULK AT MOST 1048576: true; the input reads as it did. -/
def fnExactItemOkUptoRow : OpenClaim := { program := "ytjjaefhldldpkaa", sum := "433888d28a0f6c0221ffa48b44e2e9f07e978fafe649e0407807d2071f1fdf7b", func := "loop.example/g00488/laws.FnExactItemOk", spec := "fnExactItemOk", apart := false, narrowed := true }
def FnExactItemOkUptoSaid : Prop := fnExactItemOkUptoRow.holds Try.pinned (OpenSpec.upto fnExactItemOkSpec)

end Rows
end Go.Proofs.Ytjjaefhldldpkaa
