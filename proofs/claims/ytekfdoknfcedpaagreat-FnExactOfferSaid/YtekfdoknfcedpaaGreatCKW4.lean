import Derived.Shelf.Spec.SlicesInsert
import Derived.WalkKit
import Derived.Lib.Walk
import Derived.Lib.SliceRun
import Derived.Lib.Overlaps
import Derived.Lib.AppendZerosOnto
import Derived.Laws.Externs
import Derived.Laws.IdiomCopy
import Derived.Laws.CopyRow
import Derived.Laws.NewBlocks
import Derived.Test.YtekfdoknfcedpaaGreatCNm
import Derived.Test.YtekfdoknfcedpaaGreatCKW1
import Derived.Test.YtekfdoknfcedpaaGreatCK5
section
/- slices.Insert at trails: the library's own text, walked by hand. -/
set_option linter.unusedVariables false
set_option linter.unusedSimpArgs false
namespace Go.Proofs.YtekfdoknfcedpaaGreat
open Go Go.RowKit Go.Lib Go.Ab
section
/- slices.Insert[[]impl.Trail,impl.Trail] -/
end
end Go.Proofs.YtekfdoknfcedpaaGreat
end
section
/- A thing is added to trails. -/
set_option linter.unusedSimpArgs false
set_option linter.unusedVariables false
set_option maxHeartbeats 2000000
namespace Go.Proofs.YtekfdoknfcedpaaGreat
open Go Go.Ab
section
/- impl.AddTo$1 -/
/- impl.AddTo -/
/- spec.AddTo -/
end
end Go.Proofs.YtekfdoknfcedpaaGreat
end
section
/- Stripes, told plainly; what a step does to them. -/
set_option linter.unusedSimpArgs false
set_option linter.unusedVariables false
namespace Go.Proofs.YtekfdoknfcedpaaGreat
open Go Go.Ab

def upd {α : Type} (l : List α) (i : Nat) (f : α → α) : List α := match l[i]? with
  | some a => l.set i (f a)
  | none => l
section
variable {l : List Stripe} {i : Nat} {x x' : Stripe}
/-! ### Locks -/
/-! ### A trail that is found -/
/-! ### A trail is dropped -/
/-! ### A thing is added -/
end
end Go.Proofs.YtekfdoknfcedpaaGreat
end
