import Derived.Test.YtekfdoknfcedpaaGreatDW73
import Derived.Test.YtekfdoknfcedpaaGreatDAb56
import Derived.Test.YtekfdoknfcedpaaGreatDKW2
set_option linter.unusedSimpArgs false
set_option linter.unusedVariables false
set_option maxHeartbeats 2000000
namespace Go.Proofs.YtekfdoknfcedpaaGreat
open Go Go.Ab Go.RowKit
attribute[local irreducible] dK
section
end
section
variable{P:Program} {f:FuncId} {h H g:AH} {x y:Wld} {cs ss:List AV} {F:List Nat} {Q:Nat→List AV→AH→Prop}
theorem Fw {z B:Nat} {V V2:WV} {G F2:WF} {ok:Bool} {z0:List AV} (w:PW (z+1) H B x V G) (bz:Bk H z z0 0) (e:Ext h H) (hn:h.n≤z) (s:WS (z+1) H.n H B G g y V2 F2):1=1∧∃ v,[AV.tup [.agg (y.cv V2),.bool ok]]=[v]∧sN h y ok v (g.upd z ⟨y.cv V2,0,0⟩):=by
 have k:=s.mv.kp
 have hBo:∀ c∈B::G.a,z+1≤c:=fun c hc=>by
  rcases List.mem_cons.1 hc with q|q
  ·rw[q];exact w.nb
  ·exact(w.own.1.2 c q).1
 have bz2:=bR k bz (fun hm=>by have:=hBo _ hm;omega)
 have e2:Ext h g:=Kp.ext e k fun c hc=>by have:=hBo c hc;omega
 exact Fz s.w bz2 e2 hn
end
end Go.Proofs.YtekfdoknfcedpaaGreat
