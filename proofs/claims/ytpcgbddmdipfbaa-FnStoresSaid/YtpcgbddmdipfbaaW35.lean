/- Copies of wheels' lists. -/
import Derived.Test.YtpcgbddmdipfbaaW17
set_option linter.unusedSimpArgs false
set_option linter.unusedVariables false
set_option maxHeartbeats 2000000
namespace Go.Proofs.Ytpcgbddmdipfbaa
open Go Go.Ab
section
end
end Go.Proofs.Ytpcgbddmdipfbaa
