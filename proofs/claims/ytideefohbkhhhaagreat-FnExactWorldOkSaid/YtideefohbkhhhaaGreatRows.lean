/-
  NARROWER THAN 'FOR EVERY INPUT', by the rows' own cells (each row's printed sentence says how): FnExactWorldOk: loops · FnExactWaitsFor: loops · FnExactChainOf: loops · FnExactBegin: loops · FnExactOffer: loops · FnExactAble: loops · FnExactStuck: loops · FnExactPick: loops.
  DERIVED. THE GIVEN ROWS OF THIS SEAT. 8 by the template 'for every input the law returns true; each argument reads behind the call as it read before'; 0 by the template 'total and deterministic' (their statements: YtideefohbkhhhaaGreatTotals.lean).
  GIVEN WITH THE SEED: the statements are not yours to turn. If you find one false, say at which input.
  Laid BY PROGRAM, IN A SANDBOX (cutbox-rows.mjs): the forced cells as the released guide's own fill.sh prints them over the translation 54574c2fcabd1a55… (all of the seat's roots in one cut). By AI agents, Wed Nov 11 2026. No macro, syntax, notation, axiom, sorry.
-/
import Derived.Test.YtideefohbkhhhaaGreatChecked
import GoSem.Claim
import GoSem.ClaimJoined
import GoSem.ClaimMapViews
import Derived.JoinedTies
import Derived.KernelRfl
namespace Go.Proofs.YtideefohbkhhhaaGreat
/- THE CELL 'sum', in the pinned program and in every row, IS THE sha256 OF THE DUMP (.gsa) THAT YtideefohbkhhhaaGreatProg.lean LOADS. Nothing in Lean hashes anything: it is a label: what it is worth is what the hold of that sum in a sandbox is worth. -/
noncomputable def Tryz.pinned : Pinned := { name := "ytideefohbkhhhaagreat", sum := "54574c2fcabd1a55f2100bb8db461663180873d64a6532b4c18f61952e8a6043", checked := Tryz.checked }
namespace Rows
def none {H : Type} : Left H := { results := [], args := [] }

/-- 'laws.FnExactWorldOk': WHATEVER THE INPUT: true; the input reads as it did. -/
def fnExactWorldOkSpec : ChangeSpec := { name := "fnExactWorldOk", fn := fun _ => fun
  | [d] => { results := [.lit (.bool true)], args := [d] }
  | _ => none }
def fnExactWorldOkRow : OpenClaim := { program := "ytideefohbkhhhaagreat", sum := "54574c2fcabd1a55f2100bb8db461663180873d64a6532b4c18f61952e8a6043", func := "loop.example/g00488/laws.FnExactWorldOk", spec := "fnExactWorldOk", unfollowed := true, recurses := true, loops := true, apart := false }
def FnExactWorldOkSaid : Prop := fnExactWorldOkRow.holds Tryz.pinned (OpenSpec.ofChange fnExactWorldOkSpec)

/-- ITS FALSE NEIGHBOUR: 'it returns false'. Refute it at one input. -/
def fnExactWorldOkWrong : ChangeSpec := { name := "fnExactWorldOk", fn := fun _ => fun
  | [d] => { results := [.lit (.bool false)], args := [d] }
  | _ => none }
def FnExactWorldOkWrongFalsely : Prop := fnExactWorldOkRow.holds Tryz.pinned (OpenSpec.ofChange fnExactWorldOkWrong)

/-- 'laws.FnExactWaitsFor': WHATEVER THE INPUT: true; the input reads as it did. -/
def fnExactWaitsForSpec : ChangeSpec := { name := "fnExactWaitsFor", fn := fun _ => fun
  | [d1, d2] => { results := [.lit (.bool true)], args := [d1, d2] }
  | _ => none }
def fnExactWaitsForRow : OpenClaim := { program := "ytideefohbkhhhaagreat", sum := "54574c2fcabd1a55f2100bb8db461663180873d64a6532b4c18f61952e8a6043", func := "loop.example/g00488/laws.FnExactWaitsFor", spec := "fnExactWaitsFor", unfollowed := true, recurses := true, loops := true, apart := false }
def FnExactWaitsForSaid : Prop := fnExactWaitsForRow.holds Tryz.pinned (OpenSpec.ofChange fnExactWaitsForSpec)

/-- ITS FALSE NEIGHBOUR: 'it returns false'. Refute it at one input. -/
def fnExactWaitsForWrong : ChangeSpec := { name := "fnExactWaitsFor", fn := fun _ => fun
  | [d1, d2] => { results := [.lit (.bool false)], args := [d1, d2] }
  | _ => none }
def FnExactWaitsForWrongFalsely : Prop := fnExactWaitsForRow.holds Tryz.pinned (OpenSpec.ofChange fnExactWaitsForWrong)

/-- 'laws.FnExactChainOf': WHATEVER THE INPUT: true; the input reads as it did. -/
def fnExactChainOfSpec : ChangeSpec := { name := "fnExactChainOf", fn := fun _ => fun
  | [d1, d2] => { results := [.lit (.bool true)], args := [d1, d2] }
  | _ => none }
def fnExactChainOfRow : OpenClaim := { program := "ytideefohbkhhhaagreat", sum := "54574c2fcabd1a55f2100bb8db461663180873d64a6532b4c18f61952e8a6043", func := "loop.example/g00488/laws.FnExactChainOf", spec := "fnExactChainOf", unfollowed := true, recurses := true, loops := true, apart := false }
def FnExactChainOfSaid : Prop := fnExactChainOfRow.holds Tryz.pinned (OpenSpec.ofChange fnExactChainOfSpec)

/-- ITS FALSE NEIGHBOUR: 'it returns false'. Refute it at one input. -/
def fnExactChainOfWrong : ChangeSpec := { name := "fnExactChainOf", fn := fun _ => fun
  | [d1, d2] => { results := [.lit (.bool false)], args := [d1, d2] }
  | _ => none }
def FnExactChainOfWrongFalsely : Prop := fnExactChainOfRow.holds Tryz.pinned (OpenSpec.ofChange fnExactChainOfWrong)

/-- 'laws.FnExactBegin': WHATEVER THE INPUT: true; the input reads as it did. -/
def fnExactBeginSpec : ChangeSpec := { name := "fnExactBegin", fn := fun _ => fun
  | [d1, d2] => { results := [.lit (.bool true)], args := [d1, d2] }
  | _ => none }
def fnExactBeginRow : OpenClaim := { program := "ytideefohbkhhhaagreat", sum := "54574c2fcabd1a55f2100bb8db461663180873d64a6532b4c18f61952e8a6043", func := "loop.example/g00488/laws.FnExactBegin", spec := "fnExactBegin", unfollowed := true, recurses := true, loops := true, apart := false }
def FnExactBeginSaid : Prop := fnExactBeginRow.holds Tryz.pinned (OpenSpec.ofChange fnExactBeginSpec)

/-- ITS FALSE NEIGHBOUR: 'it returns false'. Refute it at one input. -/
def fnExactBeginWrong : ChangeSpec := { name := "fnExactBegin", fn := fun _ => fun
  | [d1, d2] => { results := [.lit (.bool false)], args := [d1, d2] }
  | _ => none }
def FnExactBeginWrongFalsely : Prop := fnExactBeginRow.holds Tryz.pinned (OpenSpec.ofChange fnExactBeginWrong)

/-- 'laws.FnExactOffer': WHATEVER THE INPUT: true; the input reads as it did. -/
def fnExactOfferSpec : ChangeSpec := { name := "fnExactOffer", fn := fun _ => fun
  | [d1, d2, d3] => { results := [.lit (.bool true)], args := [d1, d2, d3] }
  | _ => none }
def fnExactOfferRow : OpenClaim := { program := "ytideefohbkhhhaagreat", sum := "54574c2fcabd1a55f2100bb8db461663180873d64a6532b4c18f61952e8a6043", func := "loop.example/g00488/laws.FnExactOffer", spec := "fnExactOffer", unfollowed := true, recurses := true, loops := true, apart := false }
def FnExactOfferSaid : Prop := fnExactOfferRow.holds Tryz.pinned (OpenSpec.ofChange fnExactOfferSpec)

/-- ITS FALSE NEIGHBOUR: 'it returns false'. Refute it at one input. -/
def fnExactOfferWrong : ChangeSpec := { name := "fnExactOffer", fn := fun _ => fun
  | [d1, d2, d3] => { results := [.lit (.bool false)], args := [d1, d2, d3] }
  | _ => none }
def FnExactOfferWrongFalsely : Prop := fnExactOfferRow.holds Tryz.pinned (OpenSpec.ofChange fnExactOfferWrong)

/-- 'laws.FnExactAble': WHATEVER THE INPUT: true; the input reads as it did. -/
def fnExactAbleSpec : ChangeSpec := { name := "fnExactAble", fn := fun _ => fun
  | [d1, d2] => { results := [.lit (.bool true)], args := [d1, d2] }
  | _ => none }
def fnExactAbleRow : OpenClaim := { program := "ytideefohbkhhhaagreat", sum := "54574c2fcabd1a55f2100bb8db461663180873d64a6532b4c18f61952e8a6043", func := "loop.example/g00488/laws.FnExactAble", spec := "fnExactAble", inPlace := ["slices.overlaps[loop.example/g00488/impl.Trail]"], unfollowed := true, recurses := true, loops := true, apart := false }
def FnExactAbleSaid : Prop := fnExactAbleRow.holds Tryz.pinned (OpenSpec.ofChange fnExactAbleSpec)

/-- ITS FALSE NEIGHBOUR: 'it returns false'. Refute it at one input. -/
def fnExactAbleWrong : ChangeSpec := { name := "fnExactAble", fn := fun _ => fun
  | [d1, d2] => { results := [.lit (.bool false)], args := [d1, d2] }
  | _ => none }
def FnExactAbleWrongFalsely : Prop := fnExactAbleRow.holds Tryz.pinned (OpenSpec.ofChange fnExactAbleWrong)

/-- 'laws.FnExactStuck': WHATEVER THE INPUT: true; the input reads as it did. -/
def fnExactStuckSpec : ChangeSpec := { name := "fnExactStuck", fn := fun _ => fun
  | [d] => { results := [.lit (.bool true)], args := [d] }
  | _ => none }
def fnExactStuckRow : OpenClaim := { program := "ytideefohbkhhhaagreat", sum := "54574c2fcabd1a55f2100bb8db461663180873d64a6532b4c18f61952e8a6043", func := "loop.example/g00488/laws.FnExactStuck", spec := "fnExactStuck", inPlace := ["slices.overlaps[loop.example/g00488/impl.Trail]"], unfollowed := true, recurses := true, loops := true, apart := false }
def FnExactStuckSaid : Prop := fnExactStuckRow.holds Tryz.pinned (OpenSpec.ofChange fnExactStuckSpec)

/-- ITS FALSE NEIGHBOUR: 'it returns false'. Refute it at one input. -/
def fnExactStuckWrong : ChangeSpec := { name := "fnExactStuck", fn := fun _ => fun
  | [d] => { results := [.lit (.bool false)], args := [d] }
  | _ => none }
def FnExactStuckWrongFalsely : Prop := fnExactStuckRow.holds Tryz.pinned (OpenSpec.ofChange fnExactStuckWrong)

/-- 'laws.FnExactPick': WHATEVER THE INPUT: true; the input reads as it did. -/
def fnExactPickSpec : ChangeSpec := { name := "fnExactPick", fn := fun _ => fun
  | [d1, d2] => { results := [.lit (.bool true)], args := [d1, d2] }
  | _ => none }
def fnExactPickRow : OpenClaim := { program := "ytideefohbkhhhaagreat", sum := "54574c2fcabd1a55f2100bb8db461663180873d64a6532b4c18f61952e8a6043", func := "loop.example/g00488/laws.FnExactPick", spec := "fnExactPick", inPlace := ["slices.overlaps[loop.example/g00488/impl.Trail]"], unfollowed := true, recurses := true, loops := true, apart := false }
def FnExactPickSaid : Prop := fnExactPickRow.holds Tryz.pinned (OpenSpec.ofChange fnExactPickSpec)

/-- ITS FALSE NEIGHBOUR: 'it returns false'. Refute it at one input. -/
def fnExactPickWrong : ChangeSpec := { name := "fnExactPick", fn := fun _ => fun
  | [d1, d2] => { results := [.lit (.bool false)], args := [d1, d2] }
  | _ => none }
def FnExactPickWrongFalsely : Prop := fnExactPickRow.holds Tryz.pinned (OpenSpec.ofChange fnExactPickWrong)

/- THE SECOND FORM. 'bulk': how many values and letters a reading holds, each counted each time it is reached (what is shared counts as often as it is met; a slice's spare places count too). A statement '..UptoSaid' is the law's where the arguments, and the package variables that the reading takes, are together of bulk at most 1048576: NARROWER than '..Said'. Prove '..Said' where nothing that the law and all that it calls make is longer than what came in: it says more and counts as full. Else prove '..UptoSaid'. A law counts once. -/
mutual
def uptoBulk {H : Type} : DataW H → Nat
  | .lit (.string bytes) => bytes.length + 1
  | .lit _ => 1
  | .nil => 1
  | .ptr d => uptoBulk d + 1
  | .slice elems spare => uptoBulkAll elems + uptoBulkAll spare + 1
  | .agg parts => uptoBulkAll parts + 1
  | .iface _ d => uptoBulk d + 1
  | .map entries => uptoBulkEntries entries + 1
  | .held _ => 1
def uptoBulkAll {H : Type} : List (DataW H) → Nat
  | [] => 0
  | d :: r => uptoBulk d + uptoBulkAll r
def uptoBulkEntries {H : Type} : List (Lit × DataW H) → Nat
  | [] => 0
  | x :: r => uptoBulkEntry x + uptoBulkEntries r
def uptoBulkEntry {H : Type} : Lit × DataW H → Nat
  | (.string bytes, d) => bytes.length + uptoBulk d + 1
  | (_, d) => uptoBulk d + 1
 end
def uptoSmall : (H : Type) → List (DataW H) → Bool := fun _ ds => decide (uptoBulkAll ds ≤ 1048576)
def OpenSpec.upto (s : _root_.Go.ChangeSpec) : _root_.Go.OpenSpec := { _root_.Go.OpenSpec.ofChange s with cond := some uptoSmall }

/-- 'laws.FnExactWorldOk', WHERE WHAT IT READS IS OF BULK AT MOST 1048576: true; the input reads as it did. -/
def fnExactWorldOkUptoRow : OpenClaim := { program := "ytideefohbkhhhaagreat", sum := "54574c2fcabd1a55f2100bb8db461663180873d64a6532b4c18f61952e8a6043", func := "loop.example/g00488/laws.FnExactWorldOk", spec := "fnExactWorldOk", unfollowed := true, recurses := true, loops := true, apart := false, narrowed := true }
def FnExactWorldOkUptoSaid : Prop := fnExactWorldOkUptoRow.holds Tryz.pinned (OpenSpec.upto fnExactWorldOkSpec)

/-- 'laws.FnExactWaitsFor', WHERE WHAT IT READS IS OF BULK AT MOST 1048576: true; the input reads as it did. -/
def fnExactWaitsForUptoRow : OpenClaim := { program := "ytideefohbkhhhaagreat", sum := "54574c2fcabd1a55f2100bb8db461663180873d64a6532b4c18f61952e8a6043", func := "loop.example/g00488/laws.FnExactWaitsFor", spec := "fnExactWaitsFor", unfollowed := true, recurses := true, loops := true, apart := false, narrowed := true }
def FnExactWaitsForUptoSaid : Prop := fnExactWaitsForUptoRow.holds Tryz.pinned (OpenSpec.upto fnExactWaitsForSpec)

/-- 'laws.FnExactChainOf', WHERE WHAT IT READS IS OF BULK AT MOST 1048576: true; the input reads as it did. -/
def fnExactChainOfUptoRow : OpenClaim := { program := "ytideefohbkhhhaagreat", sum := "54574c2fcabd1a55f2100bb8db461663180873d64a6532b4c18f61952e8a6043", func := "loop.example/g00488/laws.FnExactChainOf", spec := "fnExactChainOf", unfollowed := true, recurses := true, loops := true, apart := false, narrowed := true }
def FnExactChainOfUptoSaid : Prop := fnExactChainOfUptoRow.holds Tryz.pinned (OpenSpec.upto fnExactChainOfSpec)

/-- 'laws.FnExactBegin', WHERE WHAT IT READS IS OF BULK AT MOST 1048576: true; the input reads as it did. -/
def fnExactBeginUptoRow : OpenClaim := { program := "ytideefohbkhhhaagreat", sum := "54574c2fcabd1a55f2100bb8db461663180873d64a6532b4c18f61952e8a6043", func := "loop.example/g00488/laws.FnExactBegin", spec := "fnExactBegin", unfollowed := true, recurses := true, loops := true, apart := false, narrowed := true }
def FnExactBeginUptoSaid : Prop := fnExactBeginUptoRow.holds Tryz.pinned (OpenSpec.upto fnExactBeginSpec)

/-- 'laws.FnExactOffer', WHERE WHAT IT READS IS OF BULK AT MOST 1048576: true; the input reads as it did. -/
def fnExactOfferUptoRow : OpenClaim := { program := "ytideefohbkhhhaagreat", sum := "54574c2fcabd1a55f2100bb8db461663180873d64a6532b4c18f61952e8a6043", func := "loop.example/g00488/laws.FnExactOffer", spec := "fnExactOffer", unfollowed := true, recurses := true, loops := true, apart := false, narrowed := true }
def FnExactOfferUptoSaid : Prop := fnExactOfferUptoRow.holds Tryz.pinned (OpenSpec.upto fnExactOfferSpec)

/-- 'laws.FnExactAble', WHERE WHAT IT READS IS OF BULK AT MOST 1048576: true; the input reads as it did. -/
def fnExactAbleUptoRow : OpenClaim := { program := "ytideefohbkhhhaagreat", sum := "54574c2fcabd1a55f2100bb8db461663180873d64a6532b4c18f61952e8a6043", func := "loop.example/g00488/laws.FnExactAble", spec := "fnExactAble", inPlace := ["slices.overlaps[loop.example/g00488/impl.Trail]"], unfollowed := true, recurses := true, loops := true, apart := false, narrowed := true }
def FnExactAbleUptoSaid : Prop := fnExactAbleUptoRow.holds Tryz.pinned (OpenSpec.upto fnExactAbleSpec)

/-- 'laws.FnExactStuck', WHERE WHAT IT READS IS OF BULK AT MOST 1048576: true; the input reads as it did. -/
def fnExactStuckUptoRow : OpenClaim := { program := "ytideefohbkhhhaagreat", sum := "54574c2fcabd1a55f2100bb8db461663180873d64a6532b4c18f61952e8a6043", func := "loop.example/g00488/laws.FnExactStuck", spec := "fnExactStuck", inPlace := ["slices.overlaps[loop.example/g00488/impl.Trail]"], unfollowed := true, recurses := true, loops := true, apart := false, narrowed := true }
def FnExactStuckUptoSaid : Prop := fnExactStuckUptoRow.holds Tryz.pinned (OpenSpec.upto fnExactStuckSpec)

/-- 'laws.FnExactPick', WHERE WHAT IT READS IS OF BULK AT MOST 1048576: true; the input reads as it did. -/
def fnExactPickUptoRow : OpenClaim := { program := "ytideefohbkhhhaagreat", sum := "54574c2fcabd1a55f2100bb8db461663180873d64a6532b4c18f61952e8a6043", func := "loop.example/g00488/laws.FnExactPick", spec := "fnExactPick", inPlace := ["slices.overlaps[loop.example/g00488/impl.Trail]"], unfollowed := true, recurses := true, loops := true, apart := false, narrowed := true }
def FnExactPickUptoSaid : Prop := fnExactPickUptoRow.holds Tryz.pinned (OpenSpec.upto fnExactPickSpec)

end Rows
end Go.Proofs.YtideefohbkhhhaaGreat
