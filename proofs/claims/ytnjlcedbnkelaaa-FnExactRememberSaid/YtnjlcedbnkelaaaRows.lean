/-
  NARROWER THAN 'FOR EVERY INPUT', by the rows' own cells (each row's printed sentence says how): FnExactDeadline: loops.
  DERIVED. THE GIVEN ROWS OF THIS SEAT. 6 by the template 'for every input the law returns true; each argument reads behind the call as it read before'; 0 by the template 'total and deterministic' (their statements: YtnjlcedbnkelaaaTotals.lean).
  GIVEN WITH THE SEED: the statements are not yours to turn. If you find one false, say at which input.
  Laid BY PROGRAM, IN A SANDBOX (cutbox-rows.mjs): the forced cells as the released guide's own fill.sh prints them over the translation 7bfb7aba8fbf499b… (all of the seat's roots in one cut). By AI agents, Wed Nov 11 2026. No macro, syntax, notation, axiom, sorry.
-/
import Derived.Test.YtnjlcedbnkelaaaChecked
import GoSem.Claim
import GoSem.ClaimJoined
import GoSem.ClaimMapViews
import Derived.JoinedTies
import Derived.KernelRfl
namespace Go.Proofs.Ytnjlcedbnkelaaa
/- THE CELL 'sum', in the pinned program and in every row, IS THE sha256 OF THE DUMP (.gsa) THAT YtnjlcedbnkelaaaProg.lean LOADS. Nothing in Lean hashes anything: it is a label: what it is worth is what the hold of that sum in a sandbox is worth. -/
noncomputable def Try.pinned : Pinned := { name := "ytnjlcedbnkelaaa", sum := "7bfb7aba8fbf499bb0b058ceb367630710d4d2268577ae352e963a3b2b514808", checked := Try.checked }
namespace Rows
def none {H : Type} : Left H := { results := [], args := [] }

/-- 'laws.FnExactCodeName': WHATEVER THE INPUT: true; the input reads as it did. -/
def fnExactCodeNameSpec : ChangeSpec := { name := "fnExactCodeName", fn := fun _ => fun
  | [d] => { results := [.lit (.bool true)], args := [d] }
  | _ => none }
def fnExactCodeNameRow : OpenClaim := { program := "ytnjlcedbnkelaaa", sum := "7bfb7aba8fbf499bb0b058ceb367630710d4d2268577ae352e963a3b2b514808", func := "loop.example/g00488/laws.FnExactCodeName", spec := "fnExactCodeName", apart := false }
def FnExactCodeNameSaid : Prop := fnExactCodeNameRow.holds Try.pinned (OpenSpec.ofChange fnExactCodeNameSpec)

/-- ITS FALSE NEIGHBOUR: 'it returns false'. Refute it at one input. -/
def fnExactCodeNameWrong : ChangeSpec := { name := "fnExactCodeName", fn := fun _ => fun
  | [d] => { results := [.lit (.bool false)], args := [d] }
  | _ => none }
def FnExactCodeNameWrongFalsely : Prop := fnExactCodeNameRow.holds Try.pinned (OpenSpec.ofChange fnExactCodeNameWrong)

/-- 'laws.FnExactVerdictOf': WHATEVER THE INPUT: true; the input reads as it did. -/
def fnExactVerdictOfSpec : ChangeSpec := { name := "fnExactVerdictOf", fn := fun _ => fun
  | [d1, d2] => { results := [.lit (.bool true)], args := [d1, d2] }
  | _ => none }
def fnExactVerdictOfRow : OpenClaim := { program := "ytnjlcedbnkelaaa", sum := "7bfb7aba8fbf499bb0b058ceb367630710d4d2268577ae352e963a3b2b514808", func := "loop.example/g00488/laws.FnExactVerdictOf", spec := "fnExactVerdictOf", unfollowed := true, recurses := true, apart := false }
def FnExactVerdictOfSaid : Prop := fnExactVerdictOfRow.holds Try.pinned (OpenSpec.ofChange fnExactVerdictOfSpec)

/-- ITS FALSE NEIGHBOUR: 'it returns false'. Refute it at one input. -/
def fnExactVerdictOfWrong : ChangeSpec := { name := "fnExactVerdictOf", fn := fun _ => fun
  | [d1, d2] => { results := [.lit (.bool false)], args := [d1, d2] }
  | _ => none }
def FnExactVerdictOfWrongFalsely : Prop := fnExactVerdictOfRow.holds Try.pinned (OpenSpec.ofChange fnExactVerdictOfWrong)

/-- 'laws.FnExactCacheOk': WHATEVER THE INPUT: true; the input reads as it did. -/
def fnExactCacheOkSpec : ChangeSpec := { name := "fnExactCacheOk", fn := fun _ => fun
  | [d1, d2] => { results := [.lit (.bool true)], args := [d1, d2] }
  | _ => none }
def fnExactCacheOkRow : OpenClaim := { program := "ytnjlcedbnkelaaa", sum := "7bfb7aba8fbf499bb0b058ceb367630710d4d2268577ae352e963a3b2b514808", func := "loop.example/g00488/laws.FnExactCacheOk", spec := "fnExactCacheOk", unfollowed := true, recurses := true, apart := false }
def FnExactCacheOkSaid : Prop := fnExactCacheOkRow.holds Try.pinned (OpenSpec.ofChange fnExactCacheOkSpec)

/-- ITS FALSE NEIGHBOUR: 'it returns false'. Refute it at one input. -/
def fnExactCacheOkWrong : ChangeSpec := { name := "fnExactCacheOk", fn := fun _ => fun
  | [d1, d2] => { results := [.lit (.bool false)], args := [d1, d2] }
  | _ => none }
def FnExactCacheOkWrongFalsely : Prop := fnExactCacheOkRow.holds Try.pinned (OpenSpec.ofChange fnExactCacheOkWrong)

/-- 'laws.FnExactForgets': WHATEVER THE INPUT: true; the input reads as it did. -/
def fnExactForgetsSpec : ChangeSpec := { name := "fnExactForgets", fn := fun _ => fun
  | [d1, d2] => { results := [.lit (.bool true)], args := [d1, d2] }
  | _ => none }
def fnExactForgetsRow : OpenClaim := { program := "ytnjlcedbnkelaaa", sum := "7bfb7aba8fbf499bb0b058ceb367630710d4d2268577ae352e963a3b2b514808", func := "loop.example/g00488/laws.FnExactForgets", spec := "fnExactForgets", unfollowed := true, recurses := true, apart := false }
def FnExactForgetsSaid : Prop := fnExactForgetsRow.holds Try.pinned (OpenSpec.ofChange fnExactForgetsSpec)

/-- ITS FALSE NEIGHBOUR: 'it returns false'. Refute it at one input. -/
def fnExactForgetsWrong : ChangeSpec := { name := "fnExactForgets", fn := fun _ => fun
  | [d1, d2] => { results := [.lit (.bool false)], args := [d1, d2] }
  | _ => none }
def FnExactForgetsWrongFalsely : Prop := fnExactForgetsRow.holds Try.pinned (OpenSpec.ofChange fnExactForgetsWrong)

/-- 'laws.FnExactRemember': WHATEVER THE INPUT: true; the input reads as it did. -/
def fnExactRememberSpec : ChangeSpec := { name := "fnExactRemember", fn := fun _ => fun
  | [d1, d2, d3] => { results := [.lit (.bool true)], args := [d1, d2, d3] }
  | _ => none }
def fnExactRememberRow : OpenClaim := { program := "ytnjlcedbnkelaaa", sum := "7bfb7aba8fbf499bb0b058ceb367630710d4d2268577ae352e963a3b2b514808", func := "loop.example/g00488/laws.FnExactRemember", spec := "fnExactRemember", unfollowed := true, recurses := true, apart := false }
def FnExactRememberSaid : Prop := fnExactRememberRow.holds Try.pinned (OpenSpec.ofChange fnExactRememberSpec)

/-- ITS FALSE NEIGHBOUR: 'it returns false'. Refute it at one input. -/
def fnExactRememberWrong : ChangeSpec := { name := "fnExactRemember", fn := fun _ => fun
  | [d1, d2, d3] => { results := [.lit (.bool false)], args := [d1, d2, d3] }
  | _ => none }
def FnExactRememberWrongFalsely : Prop := fnExactRememberRow.holds Try.pinned (OpenSpec.ofChange fnExactRememberWrong)

/-- 'laws.FnExactDeadline': WHATEVER THE INPUT: true; the input reads as it did. -/
def fnExactDeadlineSpec : ChangeSpec := { name := "fnExactDeadline", fn := fun _ => fun
  | [d1, d2] => { results := [.lit (.bool true)], args := [d1, d2] }
  | _ => none }
def fnExactDeadlineRow : OpenClaim := { program := "ytnjlcedbnkelaaa", sum := "7bfb7aba8fbf499bb0b058ceb367630710d4d2268577ae352e963a3b2b514808", func := "loop.example/g00488/laws.FnExactDeadline", spec := "fnExactDeadline", recurses := true, loops := true, apart := false }
def FnExactDeadlineSaid : Prop := fnExactDeadlineRow.holds Try.pinned (OpenSpec.ofChange fnExactDeadlineSpec)

/-- ITS FALSE NEIGHBOUR: 'it returns false'. Refute it at one input. -/
def fnExactDeadlineWrong : ChangeSpec := { name := "fnExactDeadline", fn := fun _ => fun
  | [d1, d2] => { results := [.lit (.bool false)], args := [d1, d2] }
  | _ => none }
def FnExactDeadlineWrongFalsely : Prop := fnExactDeadlineRow.holds Try.pinned (OpenSpec.ofChange fnExactDeadlineWrong)

/- THE SECOND FORM. 'bulk': how many values and letters a reading holds, each counted each time it is reached (what is shared counts as often as it is met; a slice's spare places count too). A statement '..UptoSaid' is the law's where the arguments, and the package variables that the reading takes, are together of bulk at most 1048576: NARROWER than '..Said'. Prove '..Said' where nothing that the law and all that it calls make is longer than what came in: it says more and counts as full. Else prove '..UptoSaid'. A law counts once. -/
mutual
def uptoBulk {H : Type} : DataW H → Nat
  | .lit (.string bytes) => bytes.length + 1
  | .lit _ => 1
  | .nil => 1
  | .ptr d => uptoBulk d + 1
  | .slice elems spare => uptoBulkAll elems + uptoBulkAll spare + 1
  | .agg parts => uptoBulkAll parts + 1
  | .iface _ d => uptoBulk d + 1
  | .map entries => uptoBulkEntries entries + 1
  | .held _ => 1
def uptoBulkAll {H : Type} : List (DataW H) → Nat
  | [] => 0
  | d :: r => uptoBulk d + uptoBulkAll r
def uptoBulkEntries {H : Type} : List (Lit × DataW H) → Nat
  | [] => 0
  | x :: r => uptoBulkEntry x + uptoBulkEntries r
def uptoBulkEntry {H : Type} : Lit × DataW H → Nat
  | (.string bytes, d) => bytes.length + uptoBulk d + 1
  | (_, d) => uptoBulk d + 1
 end
def uptoSmall : (H : Type) → List (DataW H) → Bool := fun _ ds => decide (uptoBulkAll ds ≤ 1048576)
def OpenSpec.upto (s : _root_.Go.ChangeSpec) : _root_.Go.OpenSpec := { _root_.Go.OpenSpec.ofChange s with cond := some uptoSmall }

/-- 'laws.FnExactCodeName', WHERE WHAT IT READS IS OF BULK AT MOST 1048576: true; the input reads as it did. -/
def fnExactCodeNameUptoRow : OpenClaim := { program := "ytnjlcedbnkelaaa", sum := "7bfb7aba8fbf499bb0b058ceb367630710d4d2268577ae352e963a3b2b514808", func := "loop.example/g00488/laws.FnExactCodeName", spec := "fnExactCodeName", apart := false, narrowed := true }
def FnExactCodeNameUptoSaid : Prop := fnExactCodeNameUptoRow.holds Try.pinned (OpenSpec.upto fnExactCodeNameSpec)

/-- 'laws.FnExactVerdictOf', WHERE WHAT IT READS IS OF BULK AT MOST 1048576: true; the input reads as it did. -/
def fnExactVerdictOfUptoRow : OpenClaim := { program := "ytnjlcedbnkelaaa", sum := "7bfb7aba8fbf499bb0b058ceb367630710d4d2268577ae352e963a3b2b514808", func := "loop.example/g00488/laws.FnExactVerdictOf", spec := "fnExactVerdictOf", unfollowed := true, recurses := true, apart := false, narrowed := true }
def FnExactVerdictOfUptoSaid : Prop := fnExactVerdictOfUptoRow.holds Try.pinned (OpenSpec.upto fnExactVerdictOfSpec)

/-- 'laws.FnExactCacheOk', WHERE WHAT IT READS IS OF BULK AT MOST 1048576: true; the input reads as it did. -/
def fnExactCacheOkUptoRow : OpenClaim := { program := "ytnjlcedbnkelaaa", sum := "7bfb7aba8fbf499bb0b058ceb367630710d4d2268577ae352e963a3b2b514808", func := "loop.example/g00488/laws.FnExactCacheOk", spec := "fnExactCacheOk", unfollowed := true, recurses := true, apart := false, narrowed := true }
def FnExactCacheOkUptoSaid : Prop := fnExactCacheOkUptoRow.holds Try.pinned (OpenSpec.upto fnExactCacheOkSpec)

/-- 'laws.FnExactForgets', WHERE WHAT IT READS IS OF BULK AT MOST 1048576: true; the input reads as it did. -/
def fnExactForgetsUptoRow : OpenClaim := { program := "ytnjlcedbnkelaaa", sum := "7bfb7aba8fbf499bb0b058ceb367630710d4d2268577ae352e963a3b2b514808", func := "loop.example/g00488/laws.FnExactForgets", spec := "fnExactForgets", unfollowed := true, recurses := true, apart := false, narrowed := true }
def FnExactForgetsUptoSaid : Prop := fnExactForgetsUptoRow.holds Try.pinned (OpenSpec.upto fnExactForgetsSpec)

/-- 'laws.FnExactRemember', WHERE WHAT IT READS IS OF BULK AT MOST 1048576: true; the input reads as it did. -/
def fnExactRememberUptoRow : OpenClaim := { program := "ytnjlcedbnkelaaa", sum := "7bfb7aba8fbf499bb0b058ceb367630710d4d2268577ae352e963a3b2b514808", func := "loop.example/g00488/laws.FnExactRemember", spec := "fnExactRemember", unfollowed := true, recurses := true, apart := false, narrowed := true }
def FnExactRememberUptoSaid : Prop := fnExactRememberUptoRow.holds Try.pinned (OpenSpec.upto fnExactRememberSpec)

/-- 'laws.FnExactDeadline', WHERE WHAT IT READS IS OF BULK AT MOST 1048576: true; the input reads as it did. -/
def fnExactDeadlineUptoRow : OpenClaim := { program := "ytnjlcedbnkelaaa", sum := "7bfb7aba8fbf499bb0b058ceb367630710d4d2268577ae352e963a3b2b514808", func := "loop.example/g00488/laws.FnExactDeadline", spec := "fnExactDeadline", recurses := true, loops := true, apart := false, narrowed := true }
def FnExactDeadlineUptoSaid : Prop := fnExactDeadlineUptoRow.holds Try.pinned (OpenSpec.upto fnExactDeadlineSpec)

end Rows
end Go.Proofs.Ytnjlcedbnkelaaa
