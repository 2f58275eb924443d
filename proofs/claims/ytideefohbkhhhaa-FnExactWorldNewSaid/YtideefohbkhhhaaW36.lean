
/- Copies of wheels. -/
import Derived.Test.YtideefohbkhhhaaW35
import Derived.Test.YtideefohbkhhhaaK4
set_option linter.unusedSimpArgs false
set_option linter.unusedVariables false
set_option maxHeartbeats 2000000
namespace Go.Proofs.Ytideefohbkhhhaa
open Go Go.Ab
section
end
end Go.Proofs.Ytideefohbkhhhaa
