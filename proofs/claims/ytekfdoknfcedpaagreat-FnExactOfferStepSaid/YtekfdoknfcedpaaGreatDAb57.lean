import Derived.Test.YtekfdoknfcedpaaGreatDAb56
set_option linter.unusedSimpArgs false
set_option linter.unusedVariables false
namespace Go.Ab
open Go.RowKit
theorem vsy {A B:Prop} (hb:B) (s:B→A:=by((apply it;(first|(with_reducible first|exact lT|exact dw|exact qQ|exact lJ)|((with_reducible apply pU);first|exact pX (by rfl))|((with_reducible apply tX);first|exact tY kM)|((with_reducible apply pF);exact pJ mK)));(repeat(apply it;(first|(with_reducible first|exact dz|exact cu|exact lT|exact dw|exact lJ|exact iI)|((with_reducible apply rz);first|exact qc mK)|((with_reducible apply qZ);first|exact qb qY)|((with_reducible apply xw);first|exact xH (by assumption))|((with_reducible apply uJ);first|exact kX (by rfl) (by rfl) FZ)|((with_reducible apply pU);first|exact pX (by rfl))|((with_reducible apply tX);first|exact tY kM)|((with_reducible apply pF);exact pJ mK))));exact fun x=>x)):A:=s hb
end Go.Ab
