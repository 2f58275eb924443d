import Derived.Test.YtekfdoknfcedpaaGreatDW60
import Derived.Test.YtekfdoknfcedpaaGreatDW29
import Derived.Test.YtekfdoknfcedpaaGreatDW70
import Derived.Test.YtekfdoknfcedpaaGreatDKW2
import Derived.Test.YtekfdoknfcedpaaGreatDK5
set_option linter.unusedSimpArgs false
set_option linter.unusedVariables false
namespace Go.Proofs.YtekfdoknfcedpaaGreat
open Go Go.Ab
theorem Dy {α:Type} [Sz α] {y:α} {m:Nat} (hy:Sz.sz y≤m):∀ (xs:List α) (i:Nat),szs (xs.set i y)≤szs xs+m
 |[],i=>by simp[szs]
 |a::xs,0=>by simp only[List.set_cons_zero,szs];omega
 |a::xs,i+1=>by have:=Dy hy xs i;simp only[List.set_cons_succ,szs];omega
end Go.Proofs.YtekfdoknfcedpaaGreat
