import Derived.Test.YtekfdoknfcedpaaGreatDW81
import Derived.Test.YtekfdoknfcedpaaGreatDKW2
import Derived.Test.YtekfdoknfcedpaaGreatDW70
set_option linter.unusedSimpArgs false
set_option linter.unusedVariables false
set_option maxHeartbeats 4000000
set_option maxRecDepth 20000
namespace Go.Proofs.YtekfdoknfcedpaaGreat
open Go Go.Ab
attribute[local irreducible] dK
section
end
theorem VH {x:Wld} {m:Nat} (hs:Sz.sz x≤m):x.st.length+szs x.st≤m:=by rw[wsz] at hs;omega
theorem Ud {x:Wld} {k:Nat} {t:Task} {m:Nat} (hs:Sz.sz x≤m) (ht:x.tasks[k]? =some t):Sz.sz t.s≤m∧t.hand.length+szs t.hand≤m:=by
 have:=bI (List.mem_of_getElem? ht)
 have e:Sz.sz t=Sz.sz t.s+(t.hand.length+szs t.hand):=rfl
 rw[wsz] at hs;omega
end Go.Proofs.YtekfdoknfcedpaaGreat
