import Derived.Test.YtekfdoknfcedpaaGreatCW29
/- Worlds: for whom a task waits. -/
set_option linter.unusedSimpArgs false
set_option linter.unusedVariables false
set_option maxHeartbeats 8000000
namespace Go.Proofs.YtekfdoknfcedpaaGreat
open Go Go.Ab
section
end
def heldAt (x : Wld) (trace : Int) : Int := match x.st[(stripe trace x.st.length).toNat]? with
  | some s => s.held
  | none => -1
noncomputable def waitsT (x : Wld) (t : Task) : Int :=
  if t.op = 1 ∧ t.pc = 0 then heldAt x t.s.trace
  else if t.op = 1 ∧ t.pc = 2 then (match oldest (allT x.st) with | some o => heldAt x o.id | none => -1)
  else if t.op = 2 ∧ t.pc = 0 then heldAt x t.trace
  else if t.op = 2 ∧ t.pc = 1 then x.ruleHeld else -1
noncomputable def waits (x : Wld) (k : Int) : Int := if bp (worldOk x ∧ (0 ≤ k ∧ k ≤ 4)) = true then (match x.tasks[k.toNat]? with | some t => waitsT x t | none => -1) else -1
end Go.Proofs.YtekfdoknfcedpaaGreat
