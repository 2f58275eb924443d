/-
  No cell of these rows narrows 'for every input' (looked for: loops, veiled, ifaces, maps, wideKeys, modest, calm, conditions, laid).
  DERIVED. THE GIVEN ROWS OF THIS SEAT. 12 by the template 'for every input the law returns true; each argument reads behind the call as it read before'; 0 by the template 'total and deterministic' (their statements: YtjikmaajdpcnhaaTotals.lean).
  GIVEN WITH THE SEED: the statements are not yours to turn. If you find one false, say at which input.
  Laid BY PROGRAM, IN A SANDBOX (cutbox-rows.mjs): the forced cells as the released guide's own fill.sh prints them over the translation 309fe32c6184512a… (all of the seat's roots in one cut). By AI agents, Wed Nov 11 2026. No macro, syntax, notation, axiom, sorry.
-/
import Derived.Test.YtjikmaajdpcnhaaChecked
import GoSem.Claim
import GoSem.ClaimJoined
import GoSem.ClaimMapViews
import Derived.JoinedTies
import Derived.KernelRfl
namespace Go.Proofs.Ytjikmaajdpcnhaa
/- THE CELL 'sum', in the pinned program and in every row, IS THE sha256 OF THE DUMP (.gsa) THAT YtjikmaajdpcnhaaProg.lean LOADS. Nothing in Lean hashes anything: it is a label: what it is worth is what the hold of that sum in a sandbox is worth. -/
noncomputable def Try.pinned : Pinned := { name := "ytjikmaajdpcnhaa", sum := "309fe32c6184512ad312d4251fc9a66fcf99a867aad938f712bb3c0fc7934367", checked := Try.checked }
namespace Rows
def none {H : Type} : Left H := { results := [], args := [] }

/-- 'laws.FnCaches': WHATEVER THE INPUT: true; the input reads as it did. -/
def fnCachesSpec : ChangeSpec := { name := "fnCaches", fn := fun _ => fun
  | [d] => { results := [.lit (.bool true)], args := [d] }
  | _ => none }
def fnCachesRow : OpenClaim := { program := "ytjikmaajdpcnhaa", sum := "309fe32c6184512ad312d4251fc9a66fcf99a867aad938f712bb3c0fc7934367", func := "loop.example/g00488/laws.FnCaches", spec := "fnCaches", unfollowed := true, recurses := true, apart := false }
def FnCachesSaid : Prop := fnCachesRow.holds Try.pinned (OpenSpec.ofChange fnCachesSpec)

/-- ITS FALSE NEIGHBOUR: 'it returns false'. Refute it at one input. -/
def fnCachesWrong : ChangeSpec := { name := "fnCaches", fn := fun _ => fun
  | [d] => { results := [.lit (.bool false)], args := [d] }
  | _ => none }
def FnCachesWrongFalsely : Prop := fnCachesRow.holds Try.pinned (OpenSpec.ofChange fnCachesWrong)

/-- 'laws.FnExactSameDeed': WHATEVER THE INPUT: true; the input reads as it did. -/
def fnExactSameDeedSpec : ChangeSpec := { name := "fnExactSameDeed", fn := fun _ => fun
  | [d1, d2] => { results := [.lit (.bool true)], args := [d1, d2] }
  | _ => none }
def fnExactSameDeedRow : OpenClaim := { program := "ytjikmaajdpcnhaa", sum := "309fe32c6184512ad312d4251fc9a66fcf99a867aad938f712bb3c0fc7934367", func := "loop.example/g00488/laws.FnExactSameDeed", spec := "fnExactSameDeed", apart := false }
def FnExactSameDeedSaid : Prop := fnExactSameDeedRow.holds Try.pinned (OpenSpec.ofChange fnExactSameDeedSpec)

/-- ITS FALSE NEIGHBOUR: 'it returns false'. Refute it at one input. -/
def fnExactSameDeedWrong : ChangeSpec := { name := "fnExactSameDeed", fn := fun _ => fun
  | [d1, d2] => { results := [.lit (.bool false)], args := [d1, d2] }
  | _ => none }
def FnExactSameDeedWrongFalsely : Prop := fnExactSameDeedRow.holds Try.pinned (OpenSpec.ofChange fnExactSameDeedWrong)

/-- 'laws.FnExactItemsOf': WHATEVER THE INPUT: true; the input reads as it did. -/
def fnExactItemsOfSpec : ChangeSpec := { name := "fnExactItemsOf", fn := fun _ => fun
  | [d1, d2] => { results := [.lit (.bool true)], args := [d1, d2] }
  | _ => none }
def fnExactItemsOfRow : OpenClaim := { program := "ytjikmaajdpcnhaa", sum := "309fe32c6184512ad312d4251fc9a66fcf99a867aad938f712bb3c0fc7934367", func := "loop.example/g00488/laws.FnExactItemsOf", spec := "fnExactItemsOf", apart := false }
def FnExactItemsOfSaid : Prop := fnExactItemsOfRow.holds Try.pinned (OpenSpec.ofChange fnExactItemsOfSpec)

/-- ITS FALSE NEIGHBOUR: 'it returns false'. Refute it at one input. -/
def fnExactItemsOfWrong : ChangeSpec := { name := "fnExactItemsOf", fn := fun _ => fun
  | [d1, d2] => { results := [.lit (.bool false)], args := [d1, d2] }
  | _ => none }
def FnExactItemsOfWrongFalsely : Prop := fnExactItemsOfRow.holds Try.pinned (OpenSpec.ofChange fnExactItemsOfWrong)

/-- 'laws.FnExactHeldBytes': WHATEVER THE INPUT: true; the input reads as it did. -/
def fnExactHeldBytesSpec : ChangeSpec := { name := "fnExactHeldBytes", fn := fun _ => fun
  | [d] => { results := [.lit (.bool true)], args := [d] }
  | _ => none }
def fnExactHeldBytesRow : OpenClaim := { program := "ytjikmaajdpcnhaa", sum := "309fe32c6184512ad312d4251fc9a66fcf99a867aad938f712bb3c0fc7934367", func := "loop.example/g00488/laws.FnExactHeldBytes", spec := "fnExactHeldBytes", apart := false }
def FnExactHeldBytesSaid : Prop := fnExactHeldBytesRow.holds Try.pinned (OpenSpec.ofChange fnExactHeldBytesSpec)

/-- ITS FALSE NEIGHBOUR: 'it returns false'. Refute it at one input. -/
def fnExactHeldBytesWrong : ChangeSpec := { name := "fnExactHeldBytes", fn := fun _ => fun
  | [d] => { results := [.lit (.bool false)], args := [d] }
  | _ => none }
def FnExactHeldBytesWrongFalsely : Prop := fnExactHeldBytesRow.holds Try.pinned (OpenSpec.ofChange fnExactHeldBytesWrong)

/-- 'laws.FnExactTaskOk': WHATEVER THE INPUT: true; the input reads as it did. -/
def fnExactTaskOkSpec : ChangeSpec := { name := "fnExactTaskOk", fn := fun _ => fun
  | [d1, d2] => { results := [.lit (.bool true)], args := [d1, d2] }
  | _ => none }
def fnExactTaskOkRow : OpenClaim := { program := "ytjikmaajdpcnhaa", sum := "309fe32c6184512ad312d4251fc9a66fcf99a867aad938f712bb3c0fc7934367", func := "loop.example/g00488/laws.FnExactTaskOk", spec := "fnExactTaskOk", unfollowed := true, recurses := true, apart := false }
def FnExactTaskOkSaid : Prop := fnExactTaskOkRow.holds Try.pinned (OpenSpec.ofChange fnExactTaskOkSpec)

/-- ITS FALSE NEIGHBOUR: 'it returns false'. Refute it at one input. -/
def fnExactTaskOkWrong : ChangeSpec := { name := "fnExactTaskOk", fn := fun _ => fun
  | [d1, d2] => { results := [.lit (.bool false)], args := [d1, d2] }
  | _ => none }
def FnExactTaskOkWrongFalsely : Prop := fnExactTaskOkRow.holds Try.pinned (OpenSpec.ofChange fnExactTaskOkWrong)

/-- 'laws.FnExactStripesOk': WHATEVER THE INPUT: true; the input reads as it did. -/
def fnExactStripesOkSpec : ChangeSpec := { name := "fnExactStripesOk", fn := fun _ => fun
  | [d] => { results := [.lit (.bool true)], args := [d] }
  | _ => none }
def fnExactStripesOkRow : OpenClaim := { program := "ytjikmaajdpcnhaa", sum := "309fe32c6184512ad312d4251fc9a66fcf99a867aad938f712bb3c0fc7934367", func := "loop.example/g00488/laws.FnExactStripesOk", spec := "fnExactStripesOk", apart := false }
def FnExactStripesOkSaid : Prop := fnExactStripesOkRow.holds Try.pinned (OpenSpec.ofChange fnExactStripesOkSpec)

/-- ITS FALSE NEIGHBOUR: 'it returns false'. Refute it at one input. -/
def fnExactStripesOkWrong : ChangeSpec := { name := "fnExactStripesOk", fn := fun _ => fun
  | [d] => { results := [.lit (.bool false)], args := [d] }
  | _ => none }
def FnExactStripesOkWrongFalsely : Prop := fnExactStripesOkRow.holds Try.pinned (OpenSpec.ofChange fnExactStripesOkWrong)

/-- 'laws.FnExactOldestOf': WHATEVER THE INPUT: true; the input reads as it did. -/
def fnExactOldestOfSpec : ChangeSpec := { name := "fnExactOldestOf", fn := fun _ => fun
  | [d] => { results := [.lit (.bool true)], args := [d] }
  | _ => none }
def fnExactOldestOfRow : OpenClaim := { program := "ytjikmaajdpcnhaa", sum := "309fe32c6184512ad312d4251fc9a66fcf99a867aad938f712bb3c0fc7934367", func := "loop.example/g00488/laws.FnExactOldestOf", spec := "fnExactOldestOf", apart := false }
def FnExactOldestOfSaid : Prop := fnExactOldestOfRow.holds Try.pinned (OpenSpec.ofChange fnExactOldestOfSpec)

/-- ITS FALSE NEIGHBOUR: 'it returns false'. Refute it at one input. -/
def fnExactOldestOfWrong : ChangeSpec := { name := "fnExactOldestOf", fn := fun _ => fun
  | [d] => { results := [.lit (.bool false)], args := [d] }
  | _ => none }
def FnExactOldestOfWrongFalsely : Prop := fnExactOldestOfRow.holds Try.pinned (OpenSpec.ofChange fnExactOldestOfWrong)

/-- 'laws.FnExactFindTrail': WHATEVER THE INPUT: true; the input reads as it did. -/
def fnExactFindTrailSpec : ChangeSpec := { name := "fnExactFindTrail", fn := fun _ => fun
  | [d1, d2] => { results := [.lit (.bool true)], args := [d1, d2] }
  | _ => none }
def fnExactFindTrailRow : OpenClaim := { program := "ytjikmaajdpcnhaa", sum := "309fe32c6184512ad312d4251fc9a66fcf99a867aad938f712bb3c0fc7934367", func := "loop.example/g00488/laws.FnExactFindTrail", spec := "fnExactFindTrail", unfollowed := true, recurses := true, apart := false }
def FnExactFindTrailSaid : Prop := fnExactFindTrailRow.holds Try.pinned (OpenSpec.ofChange fnExactFindTrailSpec)

/-- ITS FALSE NEIGHBOUR: 'it returns false'. Refute it at one input. -/
def fnExactFindTrailWrong : ChangeSpec := { name := "fnExactFindTrail", fn := fun _ => fun
  | [d1, d2] => { results := [.lit (.bool false)], args := [d1, d2] }
  | _ => none }
def FnExactFindTrailWrongFalsely : Prop := fnExactFindTrailRow.holds Try.pinned (OpenSpec.ofChange fnExactFindTrailWrong)

/-- 'laws.FnExactOrder': WHATEVER THE INPUT: true; the input reads as it did. -/
def fnExactOrderSpec : ChangeSpec := { name := "fnExactOrder", fn := fun _ => fun
  | [d] => { results := [.lit (.bool true)], args := [d] }
  | _ => none }
def fnExactOrderRow : OpenClaim := { program := "ytjikmaajdpcnhaa", sum := "309fe32c6184512ad312d4251fc9a66fcf99a867aad938f712bb3c0fc7934367", func := "loop.example/g00488/laws.FnExactOrder", spec := "fnExactOrder", unfollowed := true, recurses := true, apart := false }
def FnExactOrderSaid : Prop := fnExactOrderRow.holds Try.pinned (OpenSpec.ofChange fnExactOrderSpec)

/-- ITS FALSE NEIGHBOUR: 'it returns false'. Refute it at one input. -/
def fnExactOrderWrong : ChangeSpec := { name := "fnExactOrder", fn := fun _ => fun
  | [d] => { results := [.lit (.bool false)], args := [d] }
  | _ => none }
def FnExactOrderWrongFalsely : Prop := fnExactOrderRow.holds Try.pinned (OpenSpec.ofChange fnExactOrderWrong)

/-- 'laws.FnExactAddTo': WHATEVER THE INPUT: true; the input reads as it did. -/
def fnExactAddToSpec : ChangeSpec := { name := "fnExactAddTo", fn := fun _ => fun
  | [d1, d2, d3, d4] => { results := [.lit (.bool true)], args := [d1, d2, d3, d4] }
  | _ => none }
def fnExactAddToRow : OpenClaim := { program := "ytjikmaajdpcnhaa", sum := "309fe32c6184512ad312d4251fc9a66fcf99a867aad938f712bb3c0fc7934367", func := "loop.example/g00488/laws.FnExactAddTo", spec := "fnExactAddTo", inPlace := ["slices.overlaps[loop.example/g00488/impl.Trail]"], unfollowed := true, recurses := true, apart := false }
def FnExactAddToSaid : Prop := fnExactAddToRow.holds Try.pinned (OpenSpec.ofChange fnExactAddToSpec)

/-- ITS FALSE NEIGHBOUR: 'it returns false'. Refute it at one input. -/
def fnExactAddToWrong : ChangeSpec := { name := "fnExactAddTo", fn := fun _ => fun
  | [d1, d2, d3, d4] => { results := [.lit (.bool false)], args := [d1, d2, d3, d4] }
  | _ => none }
def FnExactAddToWrongFalsely : Prop := fnExactAddToRow.holds Try.pinned (OpenSpec.ofChange fnExactAddToWrong)

/-- 'laws.FnExactDropTrail': WHATEVER THE INPUT: true; the input reads as it did. -/
def fnExactDropTrailSpec : ChangeSpec := { name := "fnExactDropTrail", fn := fun _ => fun
  | [d1, d2] => { results := [.lit (.bool true)], args := [d1, d2] }
  | _ => none }
def fnExactDropTrailRow : OpenClaim := { program := "ytjikmaajdpcnhaa", sum := "309fe32c6184512ad312d4251fc9a66fcf99a867aad938f712bb3c0fc7934367", func := "loop.example/g00488/laws.FnExactDropTrail", spec := "fnExactDropTrail", unfollowed := true, recurses := true, apart := false }
def FnExactDropTrailSaid : Prop := fnExactDropTrailRow.holds Try.pinned (OpenSpec.ofChange fnExactDropTrailSpec)

/-- ITS FALSE NEIGHBOUR: 'it returns false'. Refute it at one input. -/
def fnExactDropTrailWrong : ChangeSpec := { name := "fnExactDropTrail", fn := fun _ => fun
  | [d1, d2] => { results := [.lit (.bool false)], args := [d1, d2] }
  | _ => none }
def FnExactDropTrailWrongFalsely : Prop := fnExactDropTrailRow.holds Try.pinned (OpenSpec.ofChange fnExactDropTrailWrong)

/-- 'laws.FnExactOpenTrails': WHATEVER THE INPUT: true; the input reads as it did. -/
def fnExactOpenTrailsSpec : ChangeSpec := { name := "fnExactOpenTrails", fn := fun _ => fun
  | [d] => { results := [.lit (.bool true)], args := [d] }
  | _ => none }
def fnExactOpenTrailsRow : OpenClaim := { program := "ytjikmaajdpcnhaa", sum := "309fe32c6184512ad312d4251fc9a66fcf99a867aad938f712bb3c0fc7934367", func := "loop.example/g00488/laws.FnExactOpenTrails", spec := "fnExactOpenTrails", unfollowed := true, recurses := true, apart := false }
def FnExactOpenTrailsSaid : Prop := fnExactOpenTrailsRow.holds Try.pinned (OpenSpec.ofChange fnExactOpenTrailsSpec)

/-- ITS FALSE NEIGHBOUR: 'it returns false'. Refute it at one input. -/
def fnExactOpenTrailsWrong : ChangeSpec := { name := "fnExactOpenTrails", fn := fun _ => fun
  | [d] => { results := [.lit (.bool false)], args := [d] }
  | _ => none }
def FnExactOpenTrailsWrongFalsely : Prop := fnExactOpenTrailsRow.holds Try.pinned (OpenSpec.ofChange fnExactOpenTrailsWrong)

/- THE SECOND FORM. 'bulk': how many values and letters a reading holds, each counted each time it is reached (what is shared counts as often as it is met; a slice's spare places count too). A statement '..UptoSaid' is the law's where the arguments, and the package variables that the reading takes, are together of bulk at most 1048576: NARROWER than '..Said'. Prove '..Said' where nothing that the law and all that it calls make is longer than what came in: it says more and counts as full. Else prove '..UptoSaid'. A law counts once. -/
mutual
def uptoBulk {H : Type} : DataW H → Nat
  | .lit (.string bytes) => bytes.length + 1
  | .lit _ => 1
  | .nil => 1
  | .ptr d => uptoBulk d + 1
  | .slice elems spare => uptoBulkAll elems + uptoBulkAll spare + 1
  | .agg parts => uptoBulkAll parts + 1
  | .iface _ d => uptoBulk d + 1
  | .map entries => uptoBulkEntries entries + 1
  | .held _ => 1
def uptoBulkAll {H : Type} : List (DataW H) → Nat
  | [] => 0
  | d :: r => uptoBulk d + uptoBulkAll r
def uptoBulkEntries {H : Type} : List (Lit × DataW H) → Nat
  | [] => 0
  | x :: r => uptoBulkEntry x + uptoBulkEntries r
def uptoBulkEntry {H : Type} : Lit × DataW H → Nat
  | (.string bytes, d) => bytes.length + uptoBulk d + 1
  | (_, d) => uptoBulk d + 1
 end
def uptoSmall : (H : Type) → List (DataW H) → Bool := fun _ ds => decide (uptoBulkAll ds ≤ 1048576)
def OpenSpec.upto (s : _root_.Go.ChangeSpec) : _root_.Go.OpenSpec := { _root_.Go.OpenSpec.ofChange s with cond := some uptoSmall }

/-- 'laws.FnCaches', WHERE WHAT IT READS IS OF BULK AT MOST 1048576: true; the input reads as it did. -/
def fnCachesUptoRow : OpenClaim := { program := "ytjikmaajdpcnhaa", sum := "309fe32c6184512ad312d4251fc9a66fcf99a867aad938f712bb3c0fc7934367", func := "loop.example/g00488/laws.FnCaches", spec := "fnCaches", unfollowed := true, recurses := true, apart := false, narrowed := true }
def FnCachesUptoSaid : Prop := fnCachesUptoRow.holds Try.pinned (OpenSpec.upto fnCachesSpec)

/-- 'laws.FnExactSameDeed', WHERE WHAT IT READS IS OF BULK AT MOST 1048576: true; the input reads as it did. -/
def fnExactSameDeedUptoRow : OpenClaim := { program := "ytjikmaajdpcnhaa", sum := "309fe32c6184512ad312d4251fc9a66fcf99a867aad938f712bb3c0fc7934367", func := "loop.example/g00488/laws.FnExactSameDeed", spec := "fnExactSameDeed", apart := false, narrowed := true }
def FnExactSameDeedUptoSaid : Prop := fnExactSameDeedUptoRow.holds Try.pinned (OpenSpec.upto fnExactSameDeedSpec)

/-- 'laws.FnExactItemsOf', WHERE WHAT IT READS IS OF BULK AT MOST 1048576: true; the input reads as it did. -/
def fnExactItemsOfUptoRow : OpenClaim := { program := "ytjikmaajdpcnhaa", sum := "309fe32c6184512ad312d4251fc9a66fcf99a867aad938f712bb3c0fc7934367", func := "loop.example/g00488/laws.FnExactItemsOf", spec := "fnExactItemsOf", apart := false, narrowed := true }
def FnExactItemsOfUptoSaid : Prop := fnExactItemsOfUptoRow.holds Try.pinned (OpenSpec.upto fnExactItemsOfSpec)

/-- 'laws.FnExactHeldBytes', WHERE WHAT IT READS IS OF BULK AT MOST 1048576: true; the input reads as it did. -/
def fnExactHeldBytesUptoRow : OpenClaim := { program := "ytjikmaajdpcnhaa", sum := "309fe32c6184512ad312d4251fc9a66fcf99a867aad938f712bb3c0fc7934367", func := "loop.example/g00488/laws.FnExactHeldBytes", spec := "fnExactHeldBytes", apart := false, narrowed := true }
def FnExactHeldBytesUptoSaid : Prop := fnExactHeldBytesUptoRow.holds Try.pinned (OpenSpec.upto fnExactHeldBytesSpec)

/-- 'laws.FnExactTaskOk', WHERE WHAT IT READS IS OF BULK AT MOST 1048576: true; the input reads as it did. -/
def fnExactTaskOkUptoRow : OpenClaim := { program := "ytjikmaajdpcnhaa", sum := "309fe32c6184512ad312d4251fc9a66fcf99a867aad938f712bb3c0fc7934367", func := "loop.example/g00488/laws.FnExactTaskOk", spec := "fnExactTaskOk", unfollowed := true, recurses := true, apart := false, narrowed := true }
def FnExactTaskOkUptoSaid : Prop := fnExactTaskOkUptoRow.holds Try.pinned (OpenSpec.upto fnExactTaskOkSpec)

/-- 'laws.FnExactStripesOk', WHERE WHAT IT READS IS OF BULK AT MOST 1048576: true; the input reads as it did. -/
def fnExactStripesOkUptoRow : OpenClaim := { program := "ytjikmaajdpcnhaa", sum := "309fe32c6184512ad312d4251fc9a66fcf99a867aad938f712bb3c0fc7934367", func := "loop.example/g00488/laws.FnExactStripesOk", spec := "fnExactStripesOk", apart := false, narrowed := true }
def FnExactStripesOkUptoSaid : Prop := fnExactStripesOkUptoRow.holds Try.pinned (OpenSpec.upto fnExactStripesOkSpec)

/-- 'laws.FnExactOldestOf', WHERE WHAT IT READS IS OF BULK AT MOST 1048576: true; the input reads as it did. -/
def fnExactOldestOfUptoRow : OpenClaim := { program := "ytjikmaajdpcnhaa", sum := "309fe32c6184512ad312d4251fc9a66fcf99a867aad938f712bb3c0fc7934367", func := "loop.example/g00488/laws.FnExactOldestOf", spec := "fnExactOldestOf", apart := false, narrowed := true }
def FnExactOldestOfUptoSaid : Prop := fnExactOldestOfUptoRow.holds Try.pinned (OpenSpec.upto fnExactOldestOfSpec)

/-- 'laws.FnExactFindTrail', WHERE WHAT IT READS IS OF BULK AT MOST 1048576: true; the input reads as it did. -/
def fnExactFindTrailUptoRow : OpenClaim := { program := "ytjikmaajdpcnhaa", sum := "309fe32c6184512ad312d4251fc9a66fcf99a867aad938f712bb3c0fc7934367", func := "loop.example/g00488/laws.FnExactFindTrail", spec := "fnExactFindTrail", unfollowed := true, recurses := true, apart := false, narrowed := true }
def FnExactFindTrailUptoSaid : Prop := fnExactFindTrailUptoRow.holds Try.pinned (OpenSpec.upto fnExactFindTrailSpec)

/-- 'laws.FnExactOrder', WHERE WHAT IT READS IS OF BULK AT MOST 1048576: true; the input reads as it did. -/
def fnExactOrderUptoRow : OpenClaim := { program := "ytjikmaajdpcnhaa", sum := "309fe32c6184512ad312d4251fc9a66fcf99a867aad938f712bb3c0fc7934367", func := "loop.example/g00488/laws.FnExactOrder", spec := "fnExactOrder", unfollowed := true, recurses := true, apart := false, narrowed := true }
def FnExactOrderUptoSaid : Prop := fnExactOrderUptoRow.holds Try.pinned (OpenSpec.upto fnExactOrderSpec)

/-- 'laws.FnExactAddTo', WHERE WHAT IT READS IS OF BULK AT MOST 1048576: true; the input reads as it did. -/
def fnExactAddToUptoRow : OpenClaim := { program := "ytjikmaajdpcnhaa", sum := "309fe32c6184512ad312d4251fc9a66fcf99a867aad938f712bb3c0fc7934367", func := "loop.example/g00488/laws.FnExactAddTo", spec := "fnExactAddTo", inPlace := ["slices.overlaps[loop.example/g00488/impl.Trail]"], unfollowed := true, recurses := true, apart := false, narrowed := true }
def FnExactAddToUptoSaid : Prop := fnExactAddToUptoRow.holds Try.pinned (OpenSpec.upto fnExactAddToSpec)

/-- 'laws.FnExactDropTrail', WHERE WHAT IT READS IS OF BULK AT MOST 1048576: true; the input reads as it did. -/
def fnExactDropTrailUptoRow : OpenClaim := { program := "ytjikmaajdpcnhaa", sum := "309fe32c6184512ad312d4251fc9a66fcf99a867aad938f712bb3c0fc7934367", func := "loop.example/g00488/laws.FnExactDropTrail", spec := "fnExactDropTrail", unfollowed := true, recurses := true, apart := false, narrowed := true }
def FnExactDropTrailUptoSaid : Prop := fnExactDropTrailUptoRow.holds Try.pinned (OpenSpec.upto fnExactDropTrailSpec)

/-- 'laws.FnExactOpenTrails', WHERE WHAT IT READS IS OF BULK AT MOST 1048576: true; the input reads as it did. -/
def fnExactOpenTrailsUptoRow : OpenClaim := { program := "ytjikmaajdpcnhaa", sum := "309fe32c6184512ad312d4251fc9a66fcf99a867aad938f712bb3c0fc7934367", func := "loop.example/g00488/laws.FnExactOpenTrails", spec := "fnExactOpenTrails", unfollowed := true, recurses := true, apart := false, narrowed := true }
def FnExactOpenTrailsUptoSaid : Prop := fnExactOpenTrailsUptoRow.holds Try.pinned (OpenSpec.upto fnExactOpenTrailsSpec)

end Rows
end Go.Proofs.Ytjikmaajdpcnhaa
