import Derived.Test.YtjnekdbdmoibgaaGreatCKW2
import Derived.Test.YtjnekdbdmoibgaaGreatCW9
/- New worlds. -/
set_option linter.unusedSimpArgs false
set_option linter.unusedVariables false
set_option maxHeartbeats 4000000
namespace Go.Proofs.YtjnekdbdmoibgaaGreat
open Go Go.Ab
section
end
def noSpan : Span := ⟨0, 0, 0, 0, false, []⟩
end Go.Proofs.YtjnekdbdmoibgaaGreat
