import Derived.Test.YtjnekdbdmoibgaaGreatCKW4
import Derived.Test.YtjnekdbdmoibgaaGreatCW26
import Derived.Test.YtjnekdbdmoibgaaGreatCW30
import Derived.Test.YtjnekdbdmoibgaaGreatCW39
import Derived.Test.YtjnekdbdmoibgaaGreatCKW2
/- The steps of a world, as values. -/
set_option linter.unusedSimpArgs false
set_option linter.unusedVariables false
namespace Go.Proofs.YtjnekdbdmoibgaaGreat
open Go Go.Ab

def wr (n : Int) : Int := IntKind.i64.wrap n
/-! ### Buckets -/
def subc (a b : Int) : Int := cap (cap a - cap b)
/-! ### What a rule wants -/
def lenOf (s : Span) : Int := subc s.fin s.start
/-! ### Wheels -/
def without (id : Int) (l : List Ab.Timer) : List Ab.Timer := l.filter fun t => !(isTid id t)
/-! ### Worlds -/
def beginW (x : Wld) (k : Nat) : Wld := match x.due with
  | [] => x
  | t :: rest => { x with due := rest, tasks := x.tasks.set k ⟨2, 0, noSpan, t.trace, t.id, [], x.deeds.length⟩, deeds := x.deeds ++ [⟨2, k, noSpan, t.trace, t.id, 0, false, false, 0, 0, 0, x.w.now, x.time, -1, -1⟩], time := wr (x.time + 1) }
end Go.Proofs.YtjnekdbdmoibgaaGreat
