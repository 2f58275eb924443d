import Derived.Test.YtekfdoknfcedpaaGreatDW29
set_option linter.unusedSimpArgs false
set_option linter.unusedVariables false
set_option maxHeartbeats 8000000
namespace Go.Proofs.YtekfdoknfcedpaaGreat
open Go Go.Ab
section
end
def jM (x:Wld) (trace:Int):Int:=match x.st[(stripe trace x.st.length).toNat]? with
 |some s=>s.held
 |none=>-1
theorem TQ {x:Wld} {trace:Int} {s:aU} (h:x.st[(stripe trace x.st.length).toNat]? =some s):jM x trace=s.held:=by unfold jM;rw[h]
noncomputable def alD (x:Wld) (t:Task):Int:=
 if t.op=1∧t.pc=0 then jM x t.s.trace
 else if t.op=1∧t.pc=2 then(match oldest (allT x.st) with|some o=>jM x o.id|none=>-1)
 else if t.op=2∧t.pc=0 then jM x t.trace
 else if t.op=2∧t.pc=1 then x.bH else -1
noncomputable def waits (x:Wld) (k:Int):Int:=if bp (oQ x∧(0≤k∧k≤4))=true then(match x.tasks[k.toNat]? with|some t=>alD x t|none=>-1) else -1
end Go.Proofs.YtekfdoknfcedpaaGreat
