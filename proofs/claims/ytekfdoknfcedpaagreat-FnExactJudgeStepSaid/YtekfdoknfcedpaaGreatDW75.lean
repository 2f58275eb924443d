import Derived.Test.YtekfdoknfcedpaaGreatDW67
set_option linter.unusedSimpArgs false
set_option linter.unusedVariables false
namespace Go.Proofs.YtekfdoknfcedpaaGreat
open Go Go.Ab
section
variable{x:Wld} {k:Nat} {t:Task}
theorem task2 (h:WI x) (ht:x.tasks[k]? =some t) (hop:t.op=2):k < 5∧3≤k∧KE t∧t.s=vH∧(1≤t.trace∧t.trace≤999)∧1≤t.stamp:=by
 have hk:=(List.getElem?_eq_some_iff.1 ht).1
 have h5:=h.tl
 obtain⟨-,-,-,q|q|q⟩:=(h.tasks k t ht).1.1
 ·rw[q] at hop;cases hop
 ·omega
 ·exact⟨by omega,by have:=q.2.1;omega,q.2.2⟩
end
end Go.Proofs.YtekfdoknfcedpaaGreat
