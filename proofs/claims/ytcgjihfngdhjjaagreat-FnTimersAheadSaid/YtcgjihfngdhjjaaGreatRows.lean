/-
  No cell of these rows narrows 'for every input' (looked for: loops, veiled, ifaces, maps, wideKeys, modest, calm, conditions, laid).
  DERIVED. THE GIVEN ROWS OF THIS SEAT. 6 by the template 'for every input the law returns true; each argument reads behind the call as it read before'; 0 by the template 'total and deterministic' (their statements: YtcgjihfngdhjjaaGreatTotals.lean).
  GIVEN WITH THE SEED: the statements are not yours to turn. If you find one false, say at which input.
  Laid BY PROGRAM, IN A SANDBOX (cutbox-rows.mjs): the forced cells as the released guide's own fill.sh prints them over the translation e9287e8555df6dc7… (all of the seat's roots in one cut). By AI agents, Wed Nov 11 2026. No macro, syntax, notation, axiom, sorry.
-/
import Derived.Test.YtcgjihfngdhjjaaGreatChecked
import GoSem.Claim
import GoSem.ClaimJoined
import GoSem.ClaimMapViews
import Derived.JoinedTies
import Derived.KernelRfl
namespace Go.Proofs.YtcgjihfngdhjjaaGreat
/- THE CELL 'sum', in the pinned program and in every row, IS THE sha256 OF THE DUMP (.gsa) THAT YtcgjihfngdhjjaaGreatProg.lean LOADS. Nothing in Lean hashes anything: it is a label: what it is worth is what the hold of that sum in a sandbox is worth. -/
noncomputable def Tryz.pinned : Pinned := { name := "ytcgjihfngdhjjaagreat", sum := "e9287e8555df6dc7db6ce961543e23983e5b617b1f5180973935b9584d686b9d", checked := Tryz.checked }
namespace Rows
def none {H : Type} : Left H := { results := [], args := [] }

/-- 'laws.FnLocks': WHATEVER THE INPUT: true; the input reads as it did. -/
def fnLocksSpec : ChangeSpec := { name := "fnLocks", fn := fun _ => fun
  | [d] => { results := [.lit (.bool true)], args := [d] }
  | _ => none }
def fnLocksRow : OpenClaim := { program := "ytcgjihfngdhjjaagreat", sum := "e9287e8555df6dc7db6ce961543e23983e5b617b1f5180973935b9584d686b9d", func := "loop.example/g00488/laws.FnLocks", spec := "fnLocks", unfollowed := true, recurses := true, apart := false }
def FnLocksSaid : Prop := fnLocksRow.holds Tryz.pinned (OpenSpec.ofChange fnLocksSpec)

/-- ITS FALSE NEIGHBOUR: 'it returns false'. Refute it at one input. -/
def fnLocksWrong : ChangeSpec := { name := "fnLocks", fn := fun _ => fun
  | [d] => { results := [.lit (.bool false)], args := [d] }
  | _ => none }
def FnLocksWrongFalsely : Prop := fnLocksRow.holds Tryz.pinned (OpenSpec.ofChange fnLocksWrong)

/-- 'laws.FnNothingBehind': WHATEVER THE INPUT: true; the input reads as it did. -/
def fnNothingBehindSpec : ChangeSpec := { name := "fnNothingBehind", fn := fun _ => fun
  | [d] => { results := [.lit (.bool true)], args := [d] }
  | _ => none }
def fnNothingBehindRow : OpenClaim := { program := "ytcgjihfngdhjjaagreat", sum := "e9287e8555df6dc7db6ce961543e23983e5b617b1f5180973935b9584d686b9d", func := "loop.example/g00488/laws.FnNothingBehind", spec := "fnNothingBehind", unfollowed := true, recurses := true, apart := false }
def FnNothingBehindSaid : Prop := fnNothingBehindRow.holds Tryz.pinned (OpenSpec.ofChange fnNothingBehindSpec)

/-- ITS FALSE NEIGHBOUR: 'it returns false'. Refute it at one input. -/
def fnNothingBehindWrong : ChangeSpec := { name := "fnNothingBehind", fn := fun _ => fun
  | [d] => { results := [.lit (.bool false)], args := [d] }
  | _ => none }
def FnNothingBehindWrongFalsely : Prop := fnNothingBehindRow.holds Tryz.pinned (OpenSpec.ofChange fnNothingBehindWrong)

/-- 'laws.FnTimersAhead': WHATEVER THE INPUT: true; the input reads as it did. -/
def fnTimersAheadSpec : ChangeSpec := { name := "fnTimersAhead", fn := fun _ => fun
  | [d] => { results := [.lit (.bool true)], args := [d] }
  | _ => none }
def fnTimersAheadRow : OpenClaim := { program := "ytcgjihfngdhjjaagreat", sum := "e9287e8555df6dc7db6ce961543e23983e5b617b1f5180973935b9584d686b9d", func := "loop.example/g00488/laws.FnTimersAhead", spec := "fnTimersAhead", unfollowed := true, recurses := true, apart := false }
def FnTimersAheadSaid : Prop := fnTimersAheadRow.holds Tryz.pinned (OpenSpec.ofChange fnTimersAheadSpec)

/-- ITS FALSE NEIGHBOUR: 'it returns false'. Refute it at one input. -/
def fnTimersAheadWrong : ChangeSpec := { name := "fnTimersAhead", fn := fun _ => fun
  | [d] => { results := [.lit (.bool false)], args := [d] }
  | _ => none }
def FnTimersAheadWrongFalsely : Prop := fnTimersAheadRow.holds Tryz.pinned (OpenSpec.ofChange fnTimersAheadWrong)

/-- 'laws.FnWorlds': WHATEVER THE INPUT: true; the input reads as it did. -/
def fnWorldsSpec : ChangeSpec := { name := "fnWorlds", fn := fun _ => fun
  | [d] => { results := [.lit (.bool true)], args := [d] }
  | _ => none }
def fnWorldsRow : OpenClaim := { program := "ytcgjihfngdhjjaagreat", sum := "e9287e8555df6dc7db6ce961543e23983e5b617b1f5180973935b9584d686b9d", func := "loop.example/g00488/laws.FnWorlds", spec := "fnWorlds", unfollowed := true, recurses := true, apart := false }
def FnWorldsSaid : Prop := fnWorldsRow.holds Tryz.pinned (OpenSpec.ofChange fnWorldsSpec)

/-- ITS FALSE NEIGHBOUR: 'it returns false'. Refute it at one input. -/
def fnWorldsWrong : ChangeSpec := { name := "fnWorlds", fn := fun _ => fun
  | [d] => { results := [.lit (.bool false)], args := [d] }
  | _ => none }
def FnWorldsWrongFalsely : Prop := fnWorldsRow.holds Tryz.pinned (OpenSpec.ofChange fnWorldsWrong)

/-- 'laws.FnBegins': WHATEVER THE INPUT: true; the input reads as it did. -/
def fnBeginsSpec : ChangeSpec := { name := "fnBegins", fn := fun _ => fun
  | [d] => { results := [.lit (.bool true)], args := [d] }
  | _ => none }
def fnBeginsRow : OpenClaim := { program := "ytcgjihfngdhjjaagreat", sum := "e9287e8555df6dc7db6ce961543e23983e5b617b1f5180973935b9584d686b9d", func := "loop.example/g00488/laws.FnBegins", spec := "fnBegins", unfollowed := true, recurses := true, apart := false }
def FnBeginsSaid : Prop := fnBeginsRow.holds Tryz.pinned (OpenSpec.ofChange fnBeginsSpec)

/-- ITS FALSE NEIGHBOUR: 'it returns false'. Refute it at one input. -/
def fnBeginsWrong : ChangeSpec := { name := "fnBegins", fn := fun _ => fun
  | [d] => { results := [.lit (.bool false)], args := [d] }
  | _ => none }
def FnBeginsWrongFalsely : Prop := fnBeginsRow.holds Tryz.pinned (OpenSpec.ofChange fnBeginsWrong)

/-- 'laws.FnOffers': WHATEVER THE INPUT: true; the input reads as it did. -/
def fnOffersSpec : ChangeSpec := { name := "fnOffers", fn := fun _ => fun
  | [d] => { results := [.lit (.bool true)], args := [d] }
  | _ => none }
def fnOffersRow : OpenClaim := { program := "ytcgjihfngdhjjaagreat", sum := "e9287e8555df6dc7db6ce961543e23983e5b617b1f5180973935b9584d686b9d", func := "loop.example/g00488/laws.FnOffers", spec := "fnOffers", unfollowed := true, recurses := true, apart := false }
def FnOffersSaid : Prop := fnOffersRow.holds Tryz.pinned (OpenSpec.ofChange fnOffersSpec)

/-- ITS FALSE NEIGHBOUR: 'it returns false'. Refute it at one input. -/
def fnOffersWrong : ChangeSpec := { name := "fnOffers", fn := fun _ => fun
  | [d] => { results := [.lit (.bool false)], args := [d] }
  | _ => none }
def FnOffersWrongFalsely : Prop := fnOffersRow.holds Tryz.pinned (OpenSpec.ofChange fnOffersWrong)

/- THE SECOND FORM. 'bulk': how many values and letters a reading holds, each counted each time it is reached (what is shared counts as often as it is met; a slice's spare places count too). A statement '..UptoSaid' is the law's where the arguments, and the package variables that the reading takes, are together of bulk at most 1048576: NARROWER than '..Said'. Prove '..Said' where nothing that the law and all that it calls make is longer than what came in: it says more and counts as full. Else prove '..UptoSaid'. A law counts once. -/
mutual
def uptoBulk {H : Type} : DataW H → Nat
  | .lit (.string bytes) => bytes.length + 1
  | .lit _ => 1
  | .nil => 1
  | .ptr d => uptoBulk d + 1
  | .slice elems spare => uptoBulkAll elems + uptoBulkAll spare + 1
  | .agg parts => uptoBulkAll parts + 1
  | .iface _ d => uptoBulk d + 1
  | .map entries => uptoBulkEntries entries + 1
  | .held _ => 1
def uptoBulkAll {H : Type} : List (DataW H) → Nat
  | [] => 0
  | d :: r => uptoBulk d + uptoBulkAll r
def uptoBulkEntries {H : Type} : List (Lit × DataW H) → Nat
  | [] => 0
  | x :: r => uptoBulkEntry x + uptoBulkEntries r
def uptoBulkEntry {H : Type} : Lit × DataW H → Nat
  | (.string bytes, d) => bytes.length + uptoBulk d + 1
  | (_, d) => uptoBulk d + 1
 end
def uptoSmall : (H : Type) → List (DataW H) → Bool := fun _ ds => decide (uptoBulkAll ds ≤ 1048576)
def OpenSpec.upto (s : _root_.Go.ChangeSpec) : _root_.Go.OpenSpec := { _root_.Go.OpenSpec.ofChange s with cond := some uptoSmall }

/-- 'laws.FnLocks', WHERE WHAT IT READS IS OF BULK AT MOST 1048576: true; the input reads as it did. -/
def fnLocksUptoRow : OpenClaim := { program := "ytcgjihfngdhjjaagreat", sum := "e9287e8555df6dc7db6ce961543e23983e5b617b1f5180973935b9584d686b9d", func := "loop.example/g00488/laws.FnLocks", spec := "fnLocks", unfollowed := true, recurses := true, apart := false, narrowed := true }
def FnLocksUptoSaid : Prop := fnLocksUptoRow.holds Tryz.pinned (OpenSpec.upto fnLocksSpec)

/-- 'laws.FnNothingBehind', WHERE WHAT IT READS IS OF BULK AT MOST 1048576: true; the input reads as it did. -/
def fnNothingBehindUptoRow : OpenClaim := { program := "ytcgjihfngdhjjaagreat", sum := "e9287e8555df6dc7db6ce961543e23983e5b617b1f5180973935b9584d686b9d", func := "loop.example/g00488/laws.FnNothingBehind", spec := "fnNothingBehind", unfollowed := true, recurses := true, apart := false, narrowed := true }
def FnNothingBehindUptoSaid : Prop := fnNothingBehindUptoRow.holds Tryz.pinned (OpenSpec.upto fnNothingBehindSpec)

/-- 'laws.FnTimersAhead', WHERE WHAT IT READS IS OF BULK AT MOST 1048576: true; the input reads as it did. -/
def fnTimersAheadUptoRow : OpenClaim := { program := "ytcgjihfngdhjjaagreat", sum := "e9287e8555df6dc7db6ce961543e23983e5b617b1f5180973935b9584d686b9d", func := "loop.example/g00488/laws.FnTimersAhead", spec := "fnTimersAhead", unfollowed := true, recurses := true, apart := false, narrowed := true }
def FnTimersAheadUptoSaid : Prop := fnTimersAheadUptoRow.holds Tryz.pinned (OpenSpec.upto fnTimersAheadSpec)

/-- 'laws.FnWorlds', WHERE WHAT IT READS IS OF BULK AT MOST 1048576: true; the input reads as it did. -/
def fnWorldsUptoRow : OpenClaim := { program := "ytcgjihfngdhjjaagreat", sum := "e9287e8555df6dc7db6ce961543e23983e5b617b1f5180973935b9584d686b9d", func := "loop.example/g00488/laws.FnWorlds", spec := "fnWorlds", unfollowed := true, recurses := true, apart := false, narrowed := true }
def FnWorldsUptoSaid : Prop := fnWorldsUptoRow.holds Tryz.pinned (OpenSpec.upto fnWorldsSpec)

/-- 'laws.FnBegins', WHERE WHAT IT READS IS OF BULK AT MOST 1048576: true; the input reads as it did. -/
def fnBeginsUptoRow : OpenClaim := { program := "ytcgjihfngdhjjaagreat", sum := "e9287e8555df6dc7db6ce961543e23983e5b617b1f5180973935b9584d686b9d", func := "loop.example/g00488/laws.FnBegins", spec := "fnBegins", unfollowed := true, recurses := true, apart := false, narrowed := true }
def FnBeginsUptoSaid : Prop := fnBeginsUptoRow.holds Tryz.pinned (OpenSpec.upto fnBeginsSpec)

/-- 'laws.FnOffers', WHERE WHAT IT READS IS OF BULK AT MOST 1048576: true; the input reads as it did. -/
def fnOffersUptoRow : OpenClaim := { program := "ytcgjihfngdhjjaagreat", sum := "e9287e8555df6dc7db6ce961543e23983e5b617b1f5180973935b9584d686b9d", func := "loop.example/g00488/laws.FnOffers", spec := "fnOffers", unfollowed := true, recurses := true, apart := false, narrowed := true }
def FnOffersUptoSaid : Prop := fnOffersUptoRow.holds Tryz.pinned (OpenSpec.upto fnOffersSpec)

end Rows
end Go.Proofs.YtcgjihfngdhjjaaGreat
