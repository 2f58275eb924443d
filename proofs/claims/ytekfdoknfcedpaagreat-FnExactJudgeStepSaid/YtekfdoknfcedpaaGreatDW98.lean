import Derived.Test.YtekfdoknfcedpaaGreatDW91
import Derived.Test.YtekfdoknfcedpaaGreatDW87
import Derived.Test.YtekfdoknfcedpaaGreatDAb56
import Derived.Test.YtekfdoknfcedpaaGreatDW97
set_option linter.unusedSimpArgs false
set_option linter.unusedVariables false
set_option maxHeartbeats 2000000
set_option maxRecDepth 20000
namespace Go.Proofs.YtekfdoknfcedpaaGreat
open Go Go.Ab Go.RowKit
attribute[local irreducible] dK
section
end
section
variable{P:Program} {f:FuncId} {h H g:AH} {x y:Wld} {cs:List AV} {F:List Nat}
theorem vJ {z B:Nat} {V:WV} {G:WF} {z0:List AV} (w:PW (z+1) H B x V G) (bz:Bk H z z0 0) (hz:z0.length=32) (e:Ext h H) (hn:h.n≤z) (k:Kp H g (B::G.a)) (hc:dA Wld P f x) (r:Cel.rep h x cs F):
  (Prog.op (.call f [.agg cs]) fun c=>.op (.st 32 (.ptr z 0) c) fun _=>.fin [.cn 32 (.ptr z 0),.val (.bool false)]).awp P g fun t vs h'=>t=1∧∃ v,vs=[v]∧sN h x false v h':=by
 have hBo:∀ c∈B::G.a,z+1≤c:=fun c hc=>by
  rcases List.mem_cons.1 hc with q|q
  ·rw[q];exact w.nb
  ·exact(w.own.1.2 c q).1
 have bz2:=bR k bz (fun hm=>by have:=hBo _ hm;omega)
 have e2:Ext h g:=Kp.ext e k fun c hc=>by have:=hBo c hc;omega
 exact amq hc (dW r e2) bz2 hz e2 hn
end
noncomputable def orX (x:Wld):Option Wld→Wld × Bool
 |some y=>(y,true)
 |none=>(x,false)
theorem WI.VA {x:Wld} (h:WI x):x.cache.length≤1048576:=by
 have h1:=h.cache.2;have h2:=h.conf;unfold yH at h2;omega
end Go.Proofs.YtekfdoknfcedpaaGreat
