/-
  No cell of these rows narrows 'for every input' (looked for: loops, veiled, ifaces, maps, wideKeys, modest, calm, conditions, laid).
  DERIVED. THE GIVEN ROWS OF THIS SEAT. 8 by the template 'for every input the law returns true; each argument reads behind the call as it read before'; 0 by the template 'total and deterministic' (their statements: YtpcgbddmdipfbaaTotals.lean).
  GIVEN WITH THE SEED: the statements are not yours to turn. If you find one false, say at which input.
  Laid BY PROGRAM, IN A SANDBOX (cutbox-rows.mjs): the forced cells as the released guide's own fill.sh prints them over the translation cff6ac4735c04093… (all of the seat's roots in one cut). By AI agents, Wed Nov 11 2026. No macro, syntax, notation, axiom, sorry.
-/
import Derived.Test.YtpcgbddmdipfbaaChecked
import GoSem.Claim
import GoSem.ClaimJoined
import GoSem.ClaimMapViews
import Derived.JoinedTies
import Derived.KernelRfl
namespace Go.Proofs.Ytpcgbddmdipfbaa
/- THE CELL 'sum', in the pinned program and in every row, IS THE sha256 OF THE DUMP (.gsa) THAT YtpcgbddmdipfbaaProg.lean LOADS. Nothing in Lean hashes anything: it is a label: what it is worth is what the hold of that sum in a sandbox is worth. -/
noncomputable def Try.pinned : Pinned := { name := "ytpcgbddmdipfbaa", sum := "cff6ac4735c040932090dcc34e05c979e993d65c02138ab9a3f833d1704ef6db", checked := Try.checked }
namespace Rows
def none {H : Type} : Left H := { results := [], args := [] }

/-- 'laws.FnExactOrder': WHATEVER THE INPUT: true; the input reads as it did. -/
def fnExactOrderSpec : ChangeSpec := { name := "fnExactOrder", fn := fun _ => fun
  | [d] => { results := [.lit (.bool true)], args := [d] }
  | _ => none }
def fnExactOrderRow : OpenClaim := { program := "ytpcgbddmdipfbaa", sum := "cff6ac4735c040932090dcc34e05c979e993d65c02138ab9a3f833d1704ef6db", func := "loop.example/g00488/laws.FnExactOrder", spec := "fnExactOrder", unfollowed := true, recurses := true, apart := false }
def FnExactOrderSaid : Prop := fnExactOrderRow.holds Try.pinned (OpenSpec.ofChange fnExactOrderSpec)

/-- ITS FALSE NEIGHBOUR: 'it returns false'. Refute it at one input. -/
def fnExactOrderWrong : ChangeSpec := { name := "fnExactOrder", fn := fun _ => fun
  | [d] => { results := [.lit (.bool false)], args := [d] }
  | _ => none }
def FnExactOrderWrongFalsely : Prop := fnExactOrderRow.holds Try.pinned (OpenSpec.ofChange fnExactOrderWrong)

/-- 'laws.FnExactAddTo': WHATEVER THE INPUT: true; the input reads as it did. -/
def fnExactAddToSpec : ChangeSpec := { name := "fnExactAddTo", fn := fun _ => fun
  | [d1, d2, d3, d4] => { results := [.lit (.bool true)], args := [d1, d2, d3, d4] }
  | _ => none }
def fnExactAddToRow : OpenClaim := { program := "ytpcgbddmdipfbaa", sum := "cff6ac4735c040932090dcc34e05c979e993d65c02138ab9a3f833d1704ef6db", func := "loop.example/g00488/laws.FnExactAddTo", spec := "fnExactAddTo", inPlace := ["slices.overlaps[loop.example/g00488/impl.Trail]"], unfollowed := true, recurses := true, apart := false }
def FnExactAddToSaid : Prop := fnExactAddToRow.holds Try.pinned (OpenSpec.ofChange fnExactAddToSpec)

/-- ITS FALSE NEIGHBOUR: 'it returns false'. Refute it at one input. -/
def fnExactAddToWrong : ChangeSpec := { name := "fnExactAddTo", fn := fun _ => fun
  | [d1, d2, d3, d4] => { results := [.lit (.bool false)], args := [d1, d2, d3, d4] }
  | _ => none }
def FnExactAddToWrongFalsely : Prop := fnExactAddToRow.holds Try.pinned (OpenSpec.ofChange fnExactAddToWrong)

/-- 'laws.FnExactOpenTrails': WHATEVER THE INPUT: true; the input reads as it did. -/
def fnExactOpenTrailsSpec : ChangeSpec := { name := "fnExactOpenTrails", fn := fun _ => fun
  | [d] => { results := [.lit (.bool true)], args := [d] }
  | _ => none }
def fnExactOpenTrailsRow : OpenClaim := { program := "ytpcgbddmdipfbaa", sum := "cff6ac4735c040932090dcc34e05c979e993d65c02138ab9a3f833d1704ef6db", func := "loop.example/g00488/laws.FnExactOpenTrails", spec := "fnExactOpenTrails", unfollowed := true, recurses := true, apart := false }
def FnExactOpenTrailsSaid : Prop := fnExactOpenTrailsRow.holds Try.pinned (OpenSpec.ofChange fnExactOpenTrailsSpec)

/-- ITS FALSE NEIGHBOUR: 'it returns false'. Refute it at one input. -/
def fnExactOpenTrailsWrong : ChangeSpec := { name := "fnExactOpenTrails", fn := fun _ => fun
  | [d] => { results := [.lit (.bool false)], args := [d] }
  | _ => none }
def FnExactOpenTrailsWrongFalsely : Prop := fnExactOpenTrailsRow.holds Try.pinned (OpenSpec.ofChange fnExactOpenTrailsWrong)

/-- 'laws.FnCaches': WHATEVER THE INPUT: true; the input reads as it did. -/
def fnCachesSpec : ChangeSpec := { name := "fnCaches", fn := fun _ => fun
  | [d] => { results := [.lit (.bool true)], args := [d] }
  | _ => none }
def fnCachesRow : OpenClaim := { program := "ytpcgbddmdipfbaa", sum := "cff6ac4735c040932090dcc34e05c979e993d65c02138ab9a3f833d1704ef6db", func := "loop.example/g00488/laws.FnCaches", spec := "fnCaches", unfollowed := true, recurses := true, apart := false }
def FnCachesSaid : Prop := fnCachesRow.holds Try.pinned (OpenSpec.ofChange fnCachesSpec)

/-- ITS FALSE NEIGHBOUR: 'it returns false'. Refute it at one input. -/
def fnCachesWrong : ChangeSpec := { name := "fnCaches", fn := fun _ => fun
  | [d] => { results := [.lit (.bool false)], args := [d] }
  | _ => none }
def FnCachesWrongFalsely : Prop := fnCachesRow.holds Try.pinned (OpenSpec.ofChange fnCachesWrong)

/-- 'laws.FnDeeds': WHATEVER THE INPUT: true; the input reads as it did. -/
def fnDeedsSpec : ChangeSpec := { name := "fnDeeds", fn := fun _ => fun
  | [d] => { results := [.lit (.bool true)], args := [d] }
  | _ => none }
def fnDeedsRow : OpenClaim := { program := "ytpcgbddmdipfbaa", sum := "cff6ac4735c040932090dcc34e05c979e993d65c02138ab9a3f833d1704ef6db", func := "loop.example/g00488/laws.FnDeeds", spec := "fnDeeds", unfollowed := true, recurses := true, apart := false }
def FnDeedsSaid : Prop := fnDeedsRow.holds Try.pinned (OpenSpec.ofChange fnDeedsSpec)

/-- ITS FALSE NEIGHBOUR: 'it returns false'. Refute it at one input. -/
def fnDeedsWrong : ChangeSpec := { name := "fnDeeds", fn := fun _ => fun
  | [d] => { results := [.lit (.bool false)], args := [d] }
  | _ => none }
def FnDeedsWrongFalsely : Prop := fnDeedsRow.holds Try.pinned (OpenSpec.ofChange fnDeedsWrong)

/-- 'laws.FnTasks': WHATEVER THE INPUT: true; the input reads as it did. -/
def fnTasksSpec : ChangeSpec := { name := "fnTasks", fn := fun _ => fun
  | [d] => { results := [.lit (.bool true)], args := [d] }
  | _ => none }
def fnTasksRow : OpenClaim := { program := "ytpcgbddmdipfbaa", sum := "cff6ac4735c040932090dcc34e05c979e993d65c02138ab9a3f833d1704ef6db", func := "loop.example/g00488/laws.FnTasks", spec := "fnTasks", unfollowed := true, recurses := true, apart := false }
def FnTasksSaid : Prop := fnTasksRow.holds Try.pinned (OpenSpec.ofChange fnTasksSpec)

/-- ITS FALSE NEIGHBOUR: 'it returns false'. Refute it at one input. -/
def fnTasksWrong : ChangeSpec := { name := "fnTasks", fn := fun _ => fun
  | [d] => { results := [.lit (.bool false)], args := [d] }
  | _ => none }
def FnTasksWrongFalsely : Prop := fnTasksRow.holds Try.pinned (OpenSpec.ofChange fnTasksWrong)

/-- 'laws.FnTrails': WHATEVER THE INPUT: true; the input reads as it did. -/
def fnTrailsSpec : ChangeSpec := { name := "fnTrails", fn := fun _ => fun
  | [d] => { results := [.lit (.bool true)], args := [d] }
  | _ => none }
def fnTrailsRow : OpenClaim := { program := "ytpcgbddmdipfbaa", sum := "cff6ac4735c040932090dcc34e05c979e993d65c02138ab9a3f833d1704ef6db", func := "loop.example/g00488/laws.FnTrails", spec := "fnTrails", inPlace := ["slices.overlaps[loop.example/g00488/impl.Trail]"], unfollowed := true, recurses := true, apart := false }
def FnTrailsSaid : Prop := fnTrailsRow.holds Try.pinned (OpenSpec.ofChange fnTrailsSpec)

/-- ITS FALSE NEIGHBOUR: 'it returns false'. Refute it at one input. -/
def fnTrailsWrong : ChangeSpec := { name := "fnTrails", fn := fun _ => fun
  | [d] => { results := [.lit (.bool false)], args := [d] }
  | _ => none }
def FnTrailsWrongFalsely : Prop := fnTrailsRow.holds Try.pinned (OpenSpec.ofChange fnTrailsWrong)

/-- 'laws.FnStores': WHATEVER THE INPUT: true; the input reads as it did. -/
def fnStoresSpec : ChangeSpec := { name := "fnStores", fn := fun _ => fun
  | [d] => { results := [.lit (.bool true)], args := [d] }
  | _ => none }
def fnStoresRow : OpenClaim := { program := "ytpcgbddmdipfbaa", sum := "cff6ac4735c040932090dcc34e05c979e993d65c02138ab9a3f833d1704ef6db", func := "loop.example/g00488/laws.FnStores", spec := "fnStores", unfollowed := true, recurses := true, apart := false }
def FnStoresSaid : Prop := fnStoresRow.holds Try.pinned (OpenSpec.ofChange fnStoresSpec)

/-- ITS FALSE NEIGHBOUR: 'it returns false'. Refute it at one input. -/
def fnStoresWrong : ChangeSpec := { name := "fnStores", fn := fun _ => fun
  | [d] => { results := [.lit (.bool false)], args := [d] }
  | _ => none }
def FnStoresWrongFalsely : Prop := fnStoresRow.holds Try.pinned (OpenSpec.ofChange fnStoresWrong)

/- THE SECOND FORM. 'bulk': how many values and letters a reading holds, each counted each time it is reached (what is shared counts as often as it is met; a slice's spare places count too). A statement '..UptoSaid' is the law's where the arguments, and the package variables that the reading takes, are together of bulk at most 1048576: NARROWER than '..Said'. Prove '..Said' where nothing that the law and all that it calls make is longer than what came in: it says more and counts as full. Else prove '..UptoSaid'. A law counts once. -/
mutual
def uptoBulk {H : Type} : DataW H → Nat
  | .lit (.string bytes) => bytes.length + 1
  | .lit _ => 1
  | .nil => 1
  | .ptr d => uptoBulk d + 1
  | .slice elems spare => uptoBulkAll elems + uptoBulkAll spare + 1
  | .agg parts => uptoBulkAll parts + 1
  | .iface _ d => uptoBulk d + 1
  | .map entries => uptoBulkEntries entries + 1
  | .held _ => 1
def uptoBulkAll {H : Type} : List (DataW H) → Nat
  | [] => 0
  | d :: r => uptoBulk d + uptoBulkAll r
def uptoBulkEntries {H : Type} : List (Lit × DataW H) → Nat
  | [] => 0
  | x :: r => uptoBulkEntry x + uptoBulkEntries r
def uptoBulkEntry {H : Type} : Lit × DataW H → Nat
  | (.string bytes, d) => bytes.length + uptoBulk d + 1
  | (_, d) => uptoBulk d + 1
 end
def uptoSmall : (H : Type) → List (DataW H) → Bool := fun _ ds => decide (uptoBulkAll ds ≤ 1048576)
def OpenSpec.upto (s : _root_.Go.ChangeSpec) : _root_.Go.OpenSpec := { _root_.Go.OpenSpec.ofChange s with cond := some uptoSmall }

/-- 'laws.FnExactOrder', WHERE WHAT IT READS IS OF BULK AT MOST 1048576: true; the input reads as it did. -/
def fnExactOrderUptoRow : OpenClaim := { program := "ytpcgbddmdipfbaa", sum := "cff6ac4735c040932090dcc34e05c979e993d65c02138ab9a3f833d1704ef6db", func := "loop.example/g00488/laws.FnExactOrder", spec := "fnExactOrder", unfollowed := true, recurses := true, apart := false, narrowed := true }
def FnExactOrderUptoSaid : Prop := fnExactOrderUptoRow.holds Try.pinned (OpenSpec.upto fnExactOrderSpec)

/-- 'laws.FnExactAddTo', WHERE WHAT IT READS IS OF BULK AT MOST 1048576: true; the input reads as it did. -/
def fnExactAddToUptoRow : OpenClaim := { program := "ytpcgbddmdipfbaa", sum := "cff6ac4735c040932090dcc34e05c979e993d65c02138ab9a3f833d1704ef6db", func := "loop.example/g00488/laws.FnExactAddTo", spec := "fnExactAddTo", inPlace := ["slices.overlaps[loop.example/g00488/impl.Trail]"], unfollowed := true, recurses := true, apart := false, narrowed := true }
def FnExactAddToUptoSaid : Prop := fnExactAddToUptoRow.holds Try.pinned (OpenSpec.upto fnExactAddToSpec)

/-- 'laws.FnExactOpenTrails', WHERE WHAT IT READS IS OF BULK AT MOST 1048576: true; the input reads as it did. -/
def fnExactOpenTrailsUptoRow : OpenClaim := { program := "ytpcgbddmdipfbaa", sum := "cff6ac4735c040932090dcc34e05c979e993d65c02138ab9a3f833d1704ef6db", func := "loop.example/g00488/laws.FnExactOpenTrails", spec := "fnExactOpenTrails", unfollowed := true, recurses := true, apart := false, narrowed := true }
def FnExactOpenTrailsUptoSaid : Prop := fnExactOpenTrailsUptoRow.holds Try.pinned (OpenSpec.upto fnExactOpenTrailsSpec)

/-- 'laws.FnCaches', WHERE WHAT IT READS IS OF BULK AT MOST 1048576: true; the input reads as it did. -/
def fnCachesUptoRow : OpenClaim := { program := "ytpcgbddmdipfbaa", sum := "cff6ac4735c040932090dcc34e05c979e993d65c02138ab9a3f833d1704ef6db", func := "loop.example/g00488/laws.FnCaches", spec := "fnCaches", unfollowed := true, recurses := true, apart := false, narrowed := true }
def FnCachesUptoSaid : Prop := fnCachesUptoRow.holds Try.pinned (OpenSpec.upto fnCachesSpec)

/-- 'laws.FnDeeds', WHERE WHAT IT READS IS OF BULK AT MOST 1048576: true; the input reads as it did. -/
def fnDeedsUptoRow : OpenClaim := { program := "ytpcgbddmdipfbaa", sum := "cff6ac4735c040932090dcc34e05c979e993d65c02138ab9a3f833d1704ef6db", func := "loop.example/g00488/laws.FnDeeds", spec := "fnDeeds", unfollowed := true, recurses := true, apart := false, narrowed := true }
def FnDeedsUptoSaid : Prop := fnDeedsUptoRow.holds Try.pinned (OpenSpec.upto fnDeedsSpec)

/-- 'laws.FnTasks', WHERE WHAT IT READS IS OF BULK AT MOST 1048576: true; the input reads as it did. -/
def fnTasksUptoRow : OpenClaim := { program := "ytpcgbddmdipfbaa", sum := "cff6ac4735c040932090dcc34e05c979e993d65c02138ab9a3f833d1704ef6db", func := "loop.example/g00488/laws.FnTasks", spec := "fnTasks", unfollowed := true, recurses := true, apart := false, narrowed := true }
def FnTasksUptoSaid : Prop := fnTasksUptoRow.holds Try.pinned (OpenSpec.upto fnTasksSpec)

/-- 'laws.FnTrails', WHERE WHAT IT READS IS OF BULK AT MOST 1048576: true; the input reads as it did. -/
def fnTrailsUptoRow : OpenClaim := { program := "ytpcgbddmdipfbaa", sum := "cff6ac4735c040932090dcc34e05c979e993d65c02138ab9a3f833d1704ef6db", func := "loop.example/g00488/laws.FnTrails", spec := "fnTrails", inPlace := ["slices.overlaps[loop.example/g00488/impl.Trail]"], unfollowed := true, recurses := true, apart := false, narrowed := true }
def FnTrailsUptoSaid : Prop := fnTrailsUptoRow.holds Try.pinned (OpenSpec.upto fnTrailsSpec)

/-- 'laws.FnStores', WHERE WHAT IT READS IS OF BULK AT MOST 1048576: true; the input reads as it did. -/
def fnStoresUptoRow : OpenClaim := { program := "ytpcgbddmdipfbaa", sum := "cff6ac4735c040932090dcc34e05c979e993d65c02138ab9a3f833d1704ef6db", func := "loop.example/g00488/laws.FnStores", spec := "fnStores", unfollowed := true, recurses := true, apart := false, narrowed := true }
def FnStoresUptoSaid : Prop := fnStoresUptoRow.holds Try.pinned (OpenSpec.upto fnStoresSpec)

end Rows
end Go.Proofs.Ytpcgbddmdipfbaa
