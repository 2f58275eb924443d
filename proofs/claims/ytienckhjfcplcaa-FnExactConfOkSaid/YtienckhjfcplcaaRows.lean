/-
  NARROWER THAN 'FOR EVERY INPUT', by the rows' own cells (each row's printed sentence says how): FnExactConfOk: loops · FnExactFits: loops.
  DERIVED. THE GIVEN ROWS OF THIS SEAT. 12 by the template 'for every input the law returns true; each argument reads behind the call as it read before'; 0 by the template 'total and deterministic' (their statements: YtienckhjfcplcaaTotals.lean).
  GIVEN WITH THE SEED: the statements are not yours to turn. If you find one false, say at which input.
  Laid BY PROGRAM, IN A SANDBOX (cutbox-rows.mjs): the forced cells as the released guide's own fill.sh prints them over the translation feca506b8f48147c… (all of the seat's roots in one cut). By AI agents, Wed Nov 11 2026. No macro, syntax, notation, axiom, sorry.
-/
import Derived.Test.YtienckhjfcplcaaChecked
import GoSem.Claim
import GoSem.ClaimJoined
import GoSem.ClaimMapViews
import Derived.JoinedTies
import Derived.KernelRfl
namespace Go.Proofs.Ytienckhjfcplcaa
/- THE CELL 'sum', in the pinned program and in every row, IS THE sha256 OF THE DUMP (.gsa) THAT YtienckhjfcplcaaProg.lean LOADS. Nothing in Lean hashes anything: it is a label: what it is worth is what the hold of that sum in a sandbox is worth. -/
noncomputable def Try.pinned : Pinned := { name := "ytienckhjfcplcaa", sum := "feca506b8f48147c98a0a82a0d1bc4f60f219079f09d012670e8c76c986b825f", checked := Try.checked }
namespace Rows
def none {H : Type} : Left H := { results := [], args := [] }

/-- 'laws.FnExactConfOk': WHATEVER THE INPUT: true; the input reads as it did. -/
def fnExactConfOkSpec : ChangeSpec := { name := "fnExactConfOk", fn := fun _ => fun
  | [d] => { results := [.lit (.bool true)], args := [d] }
  | _ => none }
def fnExactConfOkRow : OpenClaim := { program := "ytienckhjfcplcaa", sum := "feca506b8f48147c98a0a82a0d1bc4f60f219079f09d012670e8c76c986b825f", func := "loop.example/g00488/laws.FnExactConfOk", spec := "fnExactConfOk", recurses := true, loops := true, apart := false }
def FnExactConfOkSaid : Prop := fnExactConfOkRow.holds Try.pinned (OpenSpec.ofChange fnExactConfOkSpec)

/-- ITS FALSE NEIGHBOUR: 'it returns false'. Refute it at one input. -/
def fnExactConfOkWrong : ChangeSpec := { name := "fnExactConfOk", fn := fun _ => fun
  | [d] => { results := [.lit (.bool false)], args := [d] }
  | _ => none }
def FnExactConfOkWrongFalsely : Prop := fnExactConfOkRow.holds Try.pinned (OpenSpec.ofChange fnExactConfOkWrong)

/-- 'laws.FnExactHoldsStripe': WHATEVER THE INPUT: true; the input reads as it did. -/
def fnExactHoldsStripeSpec : ChangeSpec := { name := "fnExactHoldsStripe", fn := fun _ => fun
  | [d1, d2] => { results := [.lit (.bool true)], args := [d1, d2] }
  | _ => none }
def fnExactHoldsStripeRow : OpenClaim := { program := "ytienckhjfcplcaa", sum := "feca506b8f48147c98a0a82a0d1bc4f60f219079f09d012670e8c76c986b825f", func := "loop.example/g00488/laws.FnExactHoldsStripe", spec := "fnExactHoldsStripe", apart := false }
def FnExactHoldsStripeSaid : Prop := fnExactHoldsStripeRow.holds Try.pinned (OpenSpec.ofChange fnExactHoldsStripeSpec)

/-- ITS FALSE NEIGHBOUR: 'it returns false'. Refute it at one input. -/
def fnExactHoldsStripeWrong : ChangeSpec := { name := "fnExactHoldsStripe", fn := fun _ => fun
  | [d1, d2] => { results := [.lit (.bool false)], args := [d1, d2] }
  | _ => none }
def FnExactHoldsStripeWrongFalsely : Prop := fnExactHoldsStripeRow.holds Try.pinned (OpenSpec.ofChange fnExactHoldsStripeWrong)

/-- 'laws.FnExactTrailOk': WHATEVER THE INPUT: true; the input reads as it did. -/
def fnExactTrailOkSpec : ChangeSpec := { name := "fnExactTrailOk", fn := fun _ => fun
  | [d] => { results := [.lit (.bool true)], args := [d] }
  | _ => none }
def fnExactTrailOkRow : OpenClaim := { program := "ytienckhjfcplcaa", sum := "feca506b8f48147c98a0a82a0d1bc4f60f219079f09d012670e8c76c986b825f", func := "loop.example/g00488/laws.FnExactTrailOk", spec := "fnExactTrailOk", apart := false }
def FnExactTrailOkSaid : Prop := fnExactTrailOkRow.holds Try.pinned (OpenSpec.ofChange fnExactTrailOkSpec)

/-- ITS FALSE NEIGHBOUR: 'it returns false'. Refute it at one input. -/
def fnExactTrailOkWrong : ChangeSpec := { name := "fnExactTrailOk", fn := fun _ => fun
  | [d] => { results := [.lit (.bool false)], args := [d] }
  | _ => none }
def FnExactTrailOkWrongFalsely : Prop := fnExactTrailOkRow.holds Try.pinned (OpenSpec.ofChange fnExactTrailOkWrong)

/-- 'laws.FnExactItemsOf': WHATEVER THE INPUT: true; the input reads as it did. -/
def fnExactItemsOfSpec : ChangeSpec := { name := "fnExactItemsOf", fn := fun _ => fun
  | [d1, d2] => { results := [.lit (.bool true)], args := [d1, d2] }
  | _ => none }
def fnExactItemsOfRow : OpenClaim := { program := "ytienckhjfcplcaa", sum := "feca506b8f48147c98a0a82a0d1bc4f60f219079f09d012670e8c76c986b825f", func := "loop.example/g00488/laws.FnExactItemsOf", spec := "fnExactItemsOf", apart := false }
def FnExactItemsOfSaid : Prop := fnExactItemsOfRow.holds Try.pinned (OpenSpec.ofChange fnExactItemsOfSpec)

/-- ITS FALSE NEIGHBOUR: 'it returns false'. Refute it at one input. -/
def fnExactItemsOfWrong : ChangeSpec := { name := "fnExactItemsOf", fn := fun _ => fun
  | [d1, d2] => { results := [.lit (.bool false)], args := [d1, d2] }
  | _ => none }
def FnExactItemsOfWrongFalsely : Prop := fnExactItemsOfRow.holds Try.pinned (OpenSpec.ofChange fnExactItemsOfWrong)

/-- 'laws.FnExactFits': WHATEVER THE INPUT: true; the input reads as it did. -/
def fnExactFitsSpec : ChangeSpec := { name := "fnExactFits", fn := fun _ => fun
  | [d1, d2] => { results := [.lit (.bool true)], args := [d1, d2] }
  | _ => none }
def fnExactFitsRow : OpenClaim := { program := "ytienckhjfcplcaa", sum := "feca506b8f48147c98a0a82a0d1bc4f60f219079f09d012670e8c76c986b825f", func := "loop.example/g00488/laws.FnExactFits", spec := "fnExactFits", recurses := true, loops := true, apart := false }
def FnExactFitsSaid : Prop := fnExactFitsRow.holds Try.pinned (OpenSpec.ofChange fnExactFitsSpec)

/-- ITS FALSE NEIGHBOUR: 'it returns false'. Refute it at one input. -/
def fnExactFitsWrong : ChangeSpec := { name := "fnExactFits", fn := fun _ => fun
  | [d1, d2] => { results := [.lit (.bool false)], args := [d1, d2] }
  | _ => none }
def FnExactFitsWrongFalsely : Prop := fnExactFitsRow.holds Try.pinned (OpenSpec.ofChange fnExactFitsWrong)

/-- 'laws.FnExactHeldBytes': WHATEVER THE INPUT: true; the input reads as it did. -/
def fnExactHeldBytesSpec : ChangeSpec := { name := "fnExactHeldBytes", fn := fun _ => fun
  | [d] => { results := [.lit (.bool true)], args := [d] }
  | _ => none }
def fnExactHeldBytesRow : OpenClaim := { program := "ytienckhjfcplcaa", sum := "feca506b8f48147c98a0a82a0d1bc4f60f219079f09d012670e8c76c986b825f", func := "loop.example/g00488/laws.FnExactHeldBytes", spec := "fnExactHeldBytes", apart := false }
def FnExactHeldBytesSaid : Prop := fnExactHeldBytesRow.holds Try.pinned (OpenSpec.ofChange fnExactHeldBytesSpec)

/-- ITS FALSE NEIGHBOUR: 'it returns false'. Refute it at one input. -/
def fnExactHeldBytesWrong : ChangeSpec := { name := "fnExactHeldBytes", fn := fun _ => fun
  | [d] => { results := [.lit (.bool false)], args := [d] }
  | _ => none }
def FnExactHeldBytesWrongFalsely : Prop := fnExactHeldBytesRow.holds Try.pinned (OpenSpec.ofChange fnExactHeldBytesWrong)

/-- 'laws.FnExactTaskOk': WHATEVER THE INPUT: true; the input reads as it did. -/
def fnExactTaskOkSpec : ChangeSpec := { name := "fnExactTaskOk", fn := fun _ => fun
  | [d1, d2] => { results := [.lit (.bool true)], args := [d1, d2] }
  | _ => none }
def fnExactTaskOkRow : OpenClaim := { program := "ytienckhjfcplcaa", sum := "feca506b8f48147c98a0a82a0d1bc4f60f219079f09d012670e8c76c986b825f", func := "loop.example/g00488/laws.FnExactTaskOk", spec := "fnExactTaskOk", unfollowed := true, recurses := true, apart := false }
def FnExactTaskOkSaid : Prop := fnExactTaskOkRow.holds Try.pinned (OpenSpec.ofChange fnExactTaskOkSpec)

/-- ITS FALSE NEIGHBOUR: 'it returns false'. Refute it at one input. -/
def fnExactTaskOkWrong : ChangeSpec := { name := "fnExactTaskOk", fn := fun _ => fun
  | [d1, d2] => { results := [.lit (.bool false)], args := [d1, d2] }
  | _ => none }
def FnExactTaskOkWrongFalsely : Prop := fnExactTaskOkRow.holds Try.pinned (OpenSpec.ofChange fnExactTaskOkWrong)

/-- 'laws.FnExactStripesOk': WHATEVER THE INPUT: true; the input reads as it did. -/
def fnExactStripesOkSpec : ChangeSpec := { name := "fnExactStripesOk", fn := fun _ => fun
  | [d] => { results := [.lit (.bool true)], args := [d] }
  | _ => none }
def fnExactStripesOkRow : OpenClaim := { program := "ytienckhjfcplcaa", sum := "feca506b8f48147c98a0a82a0d1bc4f60f219079f09d012670e8c76c986b825f", func := "loop.example/g00488/laws.FnExactStripesOk", spec := "fnExactStripesOk", apart := false }
def FnExactStripesOkSaid : Prop := fnExactStripesOkRow.holds Try.pinned (OpenSpec.ofChange fnExactStripesOkSpec)

/-- ITS FALSE NEIGHBOUR: 'it returns false'. Refute it at one input. -/
def fnExactStripesOkWrong : ChangeSpec := { name := "fnExactStripesOk", fn := fun _ => fun
  | [d] => { results := [.lit (.bool false)], args := [d] }
  | _ => none }
def FnExactStripesOkWrongFalsely : Prop := fnExactStripesOkRow.holds Try.pinned (OpenSpec.ofChange fnExactStripesOkWrong)

/-- 'laws.FnExactOldestOf': WHATEVER THE INPUT: true; the input reads as it did. -/
def fnExactOldestOfSpec : ChangeSpec := { name := "fnExactOldestOf", fn := fun _ => fun
  | [d] => { results := [.lit (.bool true)], args := [d] }
  | _ => none }
def fnExactOldestOfRow : OpenClaim := { program := "ytienckhjfcplcaa", sum := "feca506b8f48147c98a0a82a0d1bc4f60f219079f09d012670e8c76c986b825f", func := "loop.example/g00488/laws.FnExactOldestOf", spec := "fnExactOldestOf", apart := false }
def FnExactOldestOfSaid : Prop := fnExactOldestOfRow.holds Try.pinned (OpenSpec.ofChange fnExactOldestOfSpec)

/-- ITS FALSE NEIGHBOUR: 'it returns false'. Refute it at one input. -/
def fnExactOldestOfWrong : ChangeSpec := { name := "fnExactOldestOf", fn := fun _ => fun
  | [d] => { results := [.lit (.bool false)], args := [d] }
  | _ => none }
def FnExactOldestOfWrongFalsely : Prop := fnExactOldestOfRow.holds Try.pinned (OpenSpec.ofChange fnExactOldestOfWrong)

/-- 'laws.FnExactFindTrail': WHATEVER THE INPUT: true; the input reads as it did. -/
def fnExactFindTrailSpec : ChangeSpec := { name := "fnExactFindTrail", fn := fun _ => fun
  | [d1, d2] => { results := [.lit (.bool true)], args := [d1, d2] }
  | _ => none }
def fnExactFindTrailRow : OpenClaim := { program := "ytienckhjfcplcaa", sum := "feca506b8f48147c98a0a82a0d1bc4f60f219079f09d012670e8c76c986b825f", func := "loop.example/g00488/laws.FnExactFindTrail", spec := "fnExactFindTrail", unfollowed := true, recurses := true, apart := false }
def FnExactFindTrailSaid : Prop := fnExactFindTrailRow.holds Try.pinned (OpenSpec.ofChange fnExactFindTrailSpec)

/-- ITS FALSE NEIGHBOUR: 'it returns false'. Refute it at one input. -/
def fnExactFindTrailWrong : ChangeSpec := { name := "fnExactFindTrail", fn := fun _ => fun
  | [d1, d2] => { results := [.lit (.bool false)], args := [d1, d2] }
  | _ => none }
def FnExactFindTrailWrongFalsely : Prop := fnExactFindTrailRow.holds Try.pinned (OpenSpec.ofChange fnExactFindTrailWrong)

/-- 'laws.FnExactAddTo': WHATEVER THE INPUT: true; the input reads as it did. -/
def fnExactAddToSpec : ChangeSpec := { name := "fnExactAddTo", fn := fun _ => fun
  | [d1, d2, d3, d4] => { results := [.lit (.bool true)], args := [d1, d2, d3, d4] }
  | _ => none }
def fnExactAddToRow : OpenClaim := { program := "ytienckhjfcplcaa", sum := "feca506b8f48147c98a0a82a0d1bc4f60f219079f09d012670e8c76c986b825f", func := "loop.example/g00488/laws.FnExactAddTo", spec := "fnExactAddTo", inPlace := ["slices.overlaps[loop.example/g00488/impl.Trail]"], unfollowed := true, recurses := true, apart := false }
def FnExactAddToSaid : Prop := fnExactAddToRow.holds Try.pinned (OpenSpec.ofChange fnExactAddToSpec)

/-- ITS FALSE NEIGHBOUR: 'it returns false'. Refute it at one input. -/
def fnExactAddToWrong : ChangeSpec := { name := "fnExactAddTo", fn := fun _ => fun
  | [d1, d2, d3, d4] => { results := [.lit (.bool false)], args := [d1, d2, d3, d4] }
  | _ => none }
def FnExactAddToWrongFalsely : Prop := fnExactAddToRow.holds Try.pinned (OpenSpec.ofChange fnExactAddToWrong)

/-- 'laws.FnExactDropTrail': WHATEVER THE INPUT: true; the input reads as it did. -/
def fnExactDropTrailSpec : ChangeSpec := { name := "fnExactDropTrail", fn := fun _ => fun
  | [d1, d2] => { results := [.lit (.bool true)], args := [d1, d2] }
  | _ => none }
def fnExactDropTrailRow : OpenClaim := { program := "ytienckhjfcplcaa", sum := "feca506b8f48147c98a0a82a0d1bc4f60f219079f09d012670e8c76c986b825f", func := "loop.example/g00488/laws.FnExactDropTrail", spec := "fnExactDropTrail", unfollowed := true, recurses := true, apart := false }
def FnExactDropTrailSaid : Prop := fnExactDropTrailRow.holds Try.pinned (OpenSpec.ofChange fnExactDropTrailSpec)

/-- ITS FALSE NEIGHBOUR: 'it returns false'. Refute it at one input. -/
def fnExactDropTrailWrong : ChangeSpec := { name := "fnExactDropTrail", fn := fun _ => fun
  | [d1, d2] => { results := [.lit (.bool false)], args := [d1, d2] }
  | _ => none }
def FnExactDropTrailWrongFalsely : Prop := fnExactDropTrailRow.holds Try.pinned (OpenSpec.ofChange fnExactDropTrailWrong)

/- THE SECOND FORM. 'bulk': how many values and letters a reading holds, each counted each time it is reached (what is shared counts as often as it is met; a slice's spare places count too). A statement '..UptoSaid' is the law's where the arguments, and the package variables that the reading takes, are together of bulk at most 1048576: NARROWER than '..Said'. Prove '..Said' where nothing that the law and all that it calls make is longer than what came in: it says more and counts as full. Else prove '..UptoSaid'. A law counts once. -/
mutual
def uptoBulk {H : Type} : DataW H → Nat
  | .lit (.string bytes) => bytes.length + 1
  | .lit _ => 1
  | .nil => 1
  | .ptr d => uptoBulk d + 1
  | .slice elems spare => uptoBulkAll elems + uptoBulkAll spare + 1
  | .agg parts => uptoBulkAll parts + 1
  | .iface _ d => uptoBulk d + 1
  | .map entries => uptoBulkEntries entries + 1
  | .held _ => 1
def uptoBulkAll {H : Type} : List (DataW H) → Nat
  | [] => 0
  | d :: r => uptoBulk d + uptoBulkAll r
def uptoBulkEntries {H : Type} : List (Lit × DataW H) → Nat
  | [] => 0
  | x :: r => uptoBulkEntry x + uptoBulkEntries r
def uptoBulkEntry {H : Type} : Lit × DataW H → Nat
  | (.string bytes, d) => bytes.length + uptoBulk d + 1
  | (_, d) => uptoBulk d + 1
 end
def uptoSmall : (H : Type) → List (DataW H) → Bool := fun _ ds => decide (uptoBulkAll ds ≤ 1048576)
def OpenSpec.upto (s : _root_.Go.ChangeSpec) : _root_.Go.OpenSpec := { _root_.Go.OpenSpec.ofChange s with cond := some uptoSmall }

/-- 'laws.FnExactConfOk', WHERE WHAT IT READS IS OF BULK AT MOST 1048576: true; the input reads as it did. -/
def fnExactConfOkUptoRow : OpenClaim := { program := "ytienckhjfcplcaa", sum := "feca506b8f48147c98a0a82a0d1bc4f60f219079f09d012670e8c76c986b825f", func := "loop.example/g00488/laws.FnExactConfOk", spec := "fnExactConfOk", recurses := true, loops := true, apart := false, narrowed := true }
def FnExactConfOkUptoSaid : Prop := fnExactConfOkUptoRow.holds Try.pinned (OpenSpec.upto fnExactConfOkSpec)

/-- 'laws.FnExactHoldsStripe', WHERE WHAT IT READS IS OF BULK AT MOST 1048576: true; the input reads as it did. -/
def fnExactHoldsStripeUptoRow : OpenClaim := { program := "ytienckhjfcplcaa", sum := "feca506b8f48147c98a0a82a0d1bc4f60f219079f09d012670e8c76c986b825f", func := "loop.example/g00488/laws.FnExactHoldsStripe", spec := "fnExactHoldsStripe", apart := false, narrowed := true }
def FnExactHoldsStripeUptoSaid : Prop := fnExactHoldsStripeUptoRow.holds Try.pinned (OpenSpec.upto fnExactHoldsStripeSpec)

/-- 'laws.FnExactTrailOk', WHERE WHAT IT READS IS OF BULK AT MOST 1048576: true; the input reads as it did. -/
def fnExactTrailOkUptoRow : OpenClaim := { program := "ytienckhjfcplcaa", sum := "feca506b8f48147c98a0a82a0d1bc4f60f219079f09d012670e8c76c986b825f", func := "loop.example/g00488/laws.FnExactTrailOk", spec := "fnExactTrailOk", apart := false, narrowed := true }
def FnExactTrailOkUptoSaid : Prop := fnExactTrailOkUptoRow.holds Try.pinned (OpenSpec.upto fnExactTrailOkSpec)

/-- 'laws.FnExactItemsOf', WHERE WHAT IT READS IS OF BULK AT MOST 1048576: true; the input reads as it did. -/
def fnExactItemsOfUptoRow : OpenClaim := { program := "ytienckhjfcplcaa", sum := "feca506b8f48147c98a0a82a0d1bc4f60f219079f09d012670e8c76c986b825f", func := "loop.example/g00488/laws.FnExactItemsOf", spec := "fnExactItemsOf", apart := false, narrowed := true }
def FnExactItemsOfUptoSaid : Prop := fnExactItemsOfUptoRow.holds Try.pinned (OpenSpec.upto fnExactItemsOfSpec)

/-- 'laws.FnExactFits', WHERE WHAT IT READS IS OF BULK AT MOST 1048576: true; the input reads as it did. -/
def fnExactFitsUptoRow : OpenClaim := { program := "ytienckhjfcplcaa", sum := "feca506b8f48147c98a0a82a0d1bc4f60f219079f09d012670e8c76c986b825f", func := "loop.example/g00488/laws.FnExactFits", spec := "fnExactFits", recurses := true, loops := true, apart := false, narrowed := true }
def FnExactFitsUptoSaid : Prop := fnExactFitsUptoRow.holds Try.pinned (OpenSpec.upto fnExactFitsSpec)

/-- 'laws.FnExactHeldBytes', WHERE WHAT IT READS IS OF BULK AT MOST 1048576: true; the input reads as it did. -/
def fnExactHeldBytesUptoRow : OpenClaim := { program := "ytienckhjfcplcaa", sum := "feca506b8f48147c98a0a82a0d1bc4f60f219079f09d012670e8c76c986b825f", func := "loop.example/g00488/laws.FnExactHeldBytes", spec := "fnExactHeldBytes", apart := false, narrowed := true }
def FnExactHeldBytesUptoSaid : Prop := fnExactHeldBytesUptoRow.holds Try.pinned (OpenSpec.upto fnExactHeldBytesSpec)

/-- 'laws.FnExactTaskOk', WHERE WHAT IT READS IS OF BULK AT MOST 1048576: true; the input reads as it did. -/
def fnExactTaskOkUptoRow : OpenClaim := { program := "ytienckhjfcplcaa", sum := "feca506b8f48147c98a0a82a0d1bc4f60f219079f09d012670e8c76c986b825f", func := "loop.example/g00488/laws.FnExactTaskOk", spec := "fnExactTaskOk", unfollowed := true, recurses := true, apart := false, narrowed := true }
def FnExactTaskOkUptoSaid : Prop := fnExactTaskOkUptoRow.holds Try.pinned (OpenSpec.upto fnExactTaskOkSpec)

/-- 'laws.FnExactStripesOk', WHERE WHAT IT READS IS OF BULK AT MOST 1048576: true; the input reads as it did. -/
def fnExactStripesOkUptoRow : OpenClaim := { program := "ytienckhjfcplcaa", sum := "feca506b8f48147c98a0a82a0d1bc4f60f219079f09d012670e8c76c986b825f", func := "loop.example/g00488/laws.FnExactStripesOk", spec := "fnExactStripesOk", apart := false, narrowed := true }
def FnExactStripesOkUptoSaid : Prop := fnExactStripesOkUptoRow.holds Try.pinned (OpenSpec.upto fnExactStripesOkSpec)

/-- 'laws.FnExactOldestOf', WHERE WHAT IT READS IS OF BULK AT MOST 1048576: true; the input reads as it did. -/
def fnExactOldestOfUptoRow : OpenClaim := { program := "ytienckhjfcplcaa", sum := "feca506b8f48147c98a0a82a0d1bc4f60f219079f09d012670e8c76c986b825f", func := "loop.example/g00488/laws.FnExactOldestOf", spec := "fnExactOldestOf", apart := false, narrowed := true }
def FnExactOldestOfUptoSaid : Prop := fnExactOldestOfUptoRow.holds Try.pinned (OpenSpec.upto fnExactOldestOfSpec)

/-- 'laws.FnExactFindTrail', WHERE WHAT IT READS IS OF BULK AT MOST 1048576: true; the input reads as it did. -/
def fnExactFindTrailUptoRow : OpenClaim := { program := "ytienckhjfcplcaa", sum := "feca506b8f48147c98a0a82a0d1bc4f60f219079f09d012670e8c76c986b825f", func := "loop.example/g00488/laws.FnExactFindTrail", spec := "fnExactFindTrail", unfollowed := true, recurses := true, apart := false, narrowed := true }
def FnExactFindTrailUptoSaid : Prop := fnExactFindTrailUptoRow.holds Try.pinned (OpenSpec.upto fnExactFindTrailSpec)

/-- 'laws.FnExactAddTo', WHERE WHAT IT READS IS OF BULK AT MOST 1048576: true; the input reads as it did. -/
def fnExactAddToUptoRow : OpenClaim := { program := "ytienckhjfcplcaa", sum := "feca506b8f48147c98a0a82a0d1bc4f60f219079f09d012670e8c76c986b825f", func := "loop.example/g00488/laws.FnExactAddTo", spec := "fnExactAddTo", inPlace := ["slices.overlaps[loop.example/g00488/impl.Trail]"], unfollowed := true, recurses := true, apart := false, narrowed := true }
def FnExactAddToUptoSaid : Prop := fnExactAddToUptoRow.holds Try.pinned (OpenSpec.upto fnExactAddToSpec)

/-- 'laws.FnExactDropTrail', WHERE WHAT IT READS IS OF BULK AT MOST 1048576: true; the input reads as it did. -/
def fnExactDropTrailUptoRow : OpenClaim := { program := "ytienckhjfcplcaa", sum := "feca506b8f48147c98a0a82a0d1bc4f60f219079f09d012670e8c76c986b825f", func := "loop.example/g00488/laws.FnExactDropTrail", spec := "fnExactDropTrail", unfollowed := true, recurses := true, apart := false, narrowed := true }
def FnExactDropTrailUptoSaid : Prop := fnExactDropTrailUptoRow.holds Try.pinned (OpenSpec.upto fnExactDropTrailSpec)

end Rows
end Go.Proofs.Ytienckhjfcplcaa
