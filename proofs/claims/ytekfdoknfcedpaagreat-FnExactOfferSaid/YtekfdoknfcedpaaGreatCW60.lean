import Derived.Test.YtekfdoknfcedpaaGreatCKW4
import Derived.Test.YtekfdoknfcedpaaGreatCW26
import Derived.Test.YtekfdoknfcedpaaGreatCW30
import Derived.Test.YtekfdoknfcedpaaGreatCKW2
import Derived.Test.YtekfdoknfcedpaaGreatCW9
/- The steps of a world, as values. -/
set_option linter.unusedSimpArgs false
set_option linter.unusedVariables false
namespace Go.Proofs.YtekfdoknfcedpaaGreat
open Go Go.Ab

def wr (n : Int) : Int := IntKind.i64.wrap n
/-! ### Buckets -/
def subc (a b : Int) : Int := cap (cap a - cap b)
/-! ### What a rule wants -/
def lenOf (s : Span) : Int := subc s.fin s.start
/-! ### Wheels -/
def without (id : Int) (l : List Ab.Timer) : List Ab.Timer := l.filter fun t => !(isTid id t)
/-! ### Worlds -/
noncomputable def offerW (x : Wld) (k : Nat) (s : Span) : Wld :=
  if bp (fits x.c s) = true then { x with tasks := x.tasks.set k ⟨1, 0, s, 0, 0, [], x.deeds.length⟩, deeds := x.deeds ++ [⟨1, k, s, 0, 0, 0, false, false, 0, 0, 0, x.w.now, x.time, -1, -1⟩], time := wr (x.time + 1) }
  else { x with deeds := x.deeds ++ [⟨1, k, s, 0, 0, 5, false, false, 0, 0, 0, x.w.now, x.time, x.time, x.time⟩], time := wr (x.time + 1) }
end Go.Proofs.YtekfdoknfcedpaaGreat
