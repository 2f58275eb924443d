import Derived.Test.YtekfdoknfcedpaaGreatDW67
set_option linter.unusedSimpArgs false
set_option linter.unusedVariables false
namespace Go.Proofs.YtekfdoknfcedpaaGreat
open Go Go.Ab
section
variable{x:Wld} {k:Nat} {t:Task}
theorem task1 (h:WI x) (ht:x.tasks[k]? =some t) (hop:t.op=1):pO t.s∧k < 3∧t.hand=[]∧((t.pc=3∧(1≤t.trace∧t.trace≤999)∧1≤t.stamp)∨(t.pc≠3∧t.trace=0∧t.stamp=0)):=by
 obtain⟨-,-,-,q|q|q⟩:=(h.tasks k t ht).1.1
 ·rw[q] at hop;cases hop
 ·exact⟨q.2.2.1,by have:=q.2.1;omega,List.length_eq_zero_iff.1 (by have:=q.2.2.2.1;omega),q.2.2.2.2⟩
 ·omega
theorem aks {l:List aM} {i:Nat} {y y':aM} (hy:l[i]? =some y) (he:y'.held=y.held) {j:Nat} {s:aM} (hs:(l.set i y')[j]? =some s):∃ z,l[j]? =some z∧s.held=z.held:=by
 rw[List.getElem?_set] at hs
 split at hs
 ·rename_i e
  split at hs
  ·cases hs;subst e;exact⟨y,hy,he⟩
  ·cases hs
 ·exact⟨s,hs,rfl⟩
end
end Go.Proofs.YtekfdoknfcedpaaGreat
