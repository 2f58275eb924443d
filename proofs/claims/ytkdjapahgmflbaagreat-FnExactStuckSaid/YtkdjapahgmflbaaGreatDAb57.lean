import Derived.Test.YtkdjapahgmflbaaGreatDAb56
set_option linter.unusedSimpArgs false
set_option linter.unusedVariables false
namespace Go.Ab
open Go.RowKit
theorem vsy {A B:Prop} (hb:B) (s:B→A:=by((apply it;(first|(with_reducible first|exact nN|exact dQ|exact tu|exact lY)|((with_reducible apply qM);first|exact nO (by rfl))|((with_reducible apply vN);first|exact vP l7)|((with_reducible apply qD);exact qE nS)));(repeat(apply it;(first|(with_reducible first|exact dM|exact dP|exact nN|exact dQ|exact lY|exact jW)|((with_reducible apply tQ);first|exact qU nS)|((with_reducible apply tO);first|exact qR tL)|((with_reducible apply tN);first|exact tX (by assumption))|((with_reducible apply uh);first|exact kU (by rfl) (by rfl) Cc)|((with_reducible apply qM);first|exact nO (by rfl))|((with_reducible apply vN);first|exact vP l7)|((with_reducible apply qD);exact qE nS))));exact fun x=>x)):A:=s hb
end Go.Ab
