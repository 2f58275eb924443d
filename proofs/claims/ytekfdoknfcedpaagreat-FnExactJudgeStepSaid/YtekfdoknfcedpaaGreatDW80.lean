import Derived.Test.YtekfdoknfcedpaaGreatDW60
import Derived.Test.YtekfdoknfcedpaaGreatDK5
import Derived.Test.YtekfdoknfcedpaaGreatDAb56
set_option linter.unusedSimpArgs false
set_option linter.unusedVariables false
set_option maxHeartbeats 2000000
namespace Go.Proofs.YtekfdoknfcedpaaGreat
open Go Go.Ab
attribute[local irreducible] dK
section
end
def Stp (n:Nat) (h:AH) (b:Nat) (F:WF) (o:Option Wld) (v:AV) (h':AH):Prop:=match o with
 |some y=>v= .bool true∧sK n h.n h b F y h'
 |none=>v= .bool false∧Kp h h' (b::F.a)
end Go.Proofs.YtekfdoknfcedpaaGreat
