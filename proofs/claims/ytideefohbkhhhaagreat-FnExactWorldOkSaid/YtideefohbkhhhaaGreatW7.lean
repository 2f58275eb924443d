
/- Rules and set-ups that are the same. -/
import Derived.Test.YtideefohbkhhhaaGreatLPol
set_option linter.unusedSimpArgs false
set_option linter.unusedVariables false
set_option maxHeartbeats 1000000
namespace Go.Proofs.YtideefohbkhhhaaGreat
open Go Go.Ab
section
end
theorem pol_eq {a b : Pol} : a = b ↔ a.kind = b.kind ∧ a.n = b.n ∧ a.key = b.key ∧ a.text = b.text ∧ a.l = b.l := by
  cases a; cases b
  simp [Pol.mk.injEq, Pol.kind, Pol.n, Pol.key, Pol.text, Pol.l]

theorem conf_eq {a b : Conf} : a = b ↔ a.stripes = b.stripes ∧ a.wait = b.wait ∧ a.budget = b.budget ∧ a.cache = b.cache ∧ a.queue = b.queue ∧ a.rate = b.rate ∧ a.burst = b.burst ∧ a.rule = b.rule := by
  cases a; cases b
  simp [Conf.mk.injEq]
end Go.Proofs.YtideefohbkhhhaaGreat
