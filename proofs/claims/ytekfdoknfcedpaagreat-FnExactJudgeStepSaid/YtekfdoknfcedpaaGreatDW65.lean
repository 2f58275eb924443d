import Derived.Test.YtekfdoknfcedpaaGreatDW63
set_option linter.unusedSimpArgs false
set_option linter.unusedVariables false
namespace Go.Proofs.YtekfdoknfcedpaaGreat
open Go Go.Ab
theorem akC {t:Task} {n:Int} (hn:1≤n) (h:(t.op=1∧t.pc=3)∨(t.op=2∧(t.pc=1∨t.pc=2))):dU t n=stripe t.trace n:=by
 unfold dU
 rw[if_neg (by omega),if_neg (by omega),if_pos h]
section
variable{x:Wld} {k:Nat} {t t':Task}
theorem WI.n1 (h:WI x):1≤(x.st.length:Int):=h.st.1.1
end
end Go.Proofs.YtekfdoknfcedpaaGreat
