import Derived.Test.YtekfdoknfcedpaaGreatDKW2
import Derived.Test.YtekfdoknfcedpaaGreatDW9
set_option linter.unusedSimpArgs false
set_option linter.unusedVariables false
set_option maxHeartbeats 4000000
namespace Go.Proofs.YtekfdoknfcedpaaGreat
open Go Go.Ab
section
end
def al2:Span:=⟨0,0,0,0,false,[]⟩
def kr:Task:=⟨0,0,al2,0,0,[],0⟩
end Go.Proofs.YtekfdoknfcedpaaGreat
