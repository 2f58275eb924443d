import Derived.Test.YtekfdoknfcedpaaGreatDW65
set_option linter.unusedSimpArgs false
set_option linter.unusedVariables false
namespace Go.Proofs.YtekfdoknfcedpaaGreat
open Go Go.Ab
structure WhI (w:dN):Prop where
 now:0≤w.now∧w.now≤2147483647
 nl:w.near.length=8
 fl:w.far.length=8
 rest:∀ t∈w.rest,gL w.now 2 0 t
 near:∀ (i:Nat) (a:List Ab.Timer),w.near[i]? =some a→∀ t∈a,gL w.now 0 i t
 far:∀ (i:Nat) (a:List Ab.Timer),w.far[i]? =some a→∀ t∈a,gL w.now 1 i t
 nd:((timers w).map (·.id)).Nodup
 len:(timers w).length≤16
end Go.Proofs.YtekfdoknfcedpaaGreat
