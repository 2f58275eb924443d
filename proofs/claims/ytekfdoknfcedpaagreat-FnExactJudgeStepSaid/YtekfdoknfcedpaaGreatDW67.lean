import Derived.Test.YtekfdoknfcedpaaGreatDW66
set_option linter.unusedSimpArgs false
set_option linter.unusedVariables false
namespace Go.Proofs.YtekfdoknfcedpaaGreat
open Go Go.Ab
section
variable{x:Wld} {k:Nat} {t t':Task}
theorem WI.own (h:WI x) (ht:x.tasks[k]? =some t) (h0:t.op≠0):∃ d,x.aH[t.h.toNat]? =some d∧yw k t d∧d∈x.aH:=by
 have hde:=(h.tasks k t ht).1.2 h0
 unfold pV at hde
 cases hg:x.aH[t.h.toNat]? with
 |none=>rw[hg] at hde;exact hde.elim
 |some d=>rw[hg] at hde;exact⟨d,rfl,hde,List.mem_of_getElem? hg⟩
end
end Go.Proofs.YtekfdoknfcedpaaGreat
