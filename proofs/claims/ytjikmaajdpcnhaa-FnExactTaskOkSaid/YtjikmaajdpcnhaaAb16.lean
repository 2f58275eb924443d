/- Regions that draw their order: what is made late. -/
import Derived.Test.YtjikmaajdpcnhaaAb15
set_option linter.unusedSimpArgs false
set_option linter.unusedVariables false
namespace Go.Ab
open Go.RowKit

variable {B : Nat} {w0 w w' : World} {m m' : BM} {h : AH} {P : Program}

theorem le_add {b : Nat} (p : Pl) (hm : m b = none) : m.le (m.add b p) := by
  intro x q hq
  have : x ≠ b := fun e => by rw [e, hm] at hq; cases hq
  simp [BM.add, this, hq]

/-- A block that the heap has, and the world has now, too. -/
theorem Sim.adoptAt (s : Sim B w0 m h w) {b : Nat} (hbn : b < h.n) (hm : m b = none) (p : Pl) (hst : (h.get b).st = 0) (ho : ORel B (h.get b) p w) (hb : BRel (m.add b p) (h.get b) p w)
    (hs : ∀ b' p', m b' = some p' → (h.get b').st = 0 → Apart (h.get b') p' (h.get b) p) : Sim B w0 (m.add b p) h w := by
  have hle := le_add (m := m) p hm
  have old : ∀ x q, x ≠ b → m.add b p x = some q → m x = some q := by
    intro x q hne hq
    simpa only [BM.add, hne, if_false] using hq
  have new : ∀ q, m.add b p b = some q → q = p := by
    intro q hq
    simp only [BM.add, if_true, Option.some.injEq] at hq
    exact hq.symm
  refine ⟨s.below, s.room, ?_, ?_, ?_, ?_, ?_, s.sts, s.fresh⟩
  · intro x q hq
    by_cases e : x = b
    · subst e; exact hbn
    · exact s.dom x q (old x q e hq)
  · intro x q hq hx
    by_cases e : x = b
    · subst e; rw [new q hq]; exact hb
    · exact (s.blk x q (old x q e hq) hx).mono hle
  · intro x q hq hx
    by_cases e : x = b
    · subst e; rw [new q hq]; exact ho
    · exact s.own x q (old x q e hq) hx
  · intro x q hq hx
    by_cases e : x = b
    · subst e; omega
    · exact s.old x q (old x q e hq) hx
  · intro x y q q' hne hq hq' hx hy
    by_cases e : x = b
    · subst e
      rw [new q hq]
      exact (hs y q' (old y q' (fun e => hne e.symm) hq') hy).symm
    · by_cases e' : y = b
      · subst e'
        rw [new q' hq']
        exact hs x q (old x q e hq) hx
      · exact s.sep x y q q' hne (old x q e hq) (old y q' e' hq') hx hy

theorem Sim.pushv (s : Sim B w0 m h w) (k : Blk) (hk : k.st = 0) : Sim B w0 m (h.push k) w := by
  have hne : ∀ b p, m b = some p → b ≠ h.n := fun b p hp e => by have := s.dom b p hp; omega
  have hg : ∀ b p, m b = some p → (h.push k).get b = h.get b := fun b p hp => by simp [AH.push, hne b p hp]
  refine ⟨s.below, s.room, ?_, ?_, ?_, ?_, ?_, ?_, ?_⟩
  · intro b p hp; have := s.dom b p hp; simp only [AH.push]; omega
  · intro b p hp hx; rw [hg b p hp] at hx ⊢; exact s.blk b p hp hx
  · intro b p hp hx; rw [hg b p hp] at hx ⊢; exact s.own b p hp hx
  · intro b p hp hx; rw [hg b p hp] at hx ⊢; exact s.old b p hp hx
  · intro b b' p p' hn hp hp' hx hx'
    rw [hg b p hp] at hx ⊢; rw [hg b' p' hp'] at hx' ⊢
    exact s.sep b b' p p' hn hp hp' hx hx'
  · intro b
    by_cases e : b = h.n
    · subst e; simp [AH.push, hk]
    · simp only [AH.push, e, if_false]; exact s.sts b
  · intro b hb
    have e : b ≠ h.n := fun e => by simp only [AH.push] at hb; omega
    simp only [AH.push, e, if_false] at hb ⊢
    exact s.fresh b (by omega)

theorem Sim.makeAt (s : Sim B w0 m h w) {b : Nat} (hbn : b < h.n) (hm : m b = none) (hst : (h.get b).st = 0) (c : Array Value) (e : TypeId) (hlen : (h.get b).cells.length = c.size) (hr : VRels m (h.get b).cells c.toList) (h1 : ∀ x ∈ c.toList, x.oneCell' = true) :
    Sim B w0 (m.add b ⟨w.heap.size, 0, c.size, (h.get b).es⟩) h (w.alloc (.cells c e)) := by
  have hg : (w.alloc (.cells c e)).heap[w.heap.size]? = some (.cells c e (0, 0)) := by show (w.heap.push _)[w.heap.size]? = _; simp
  refine (s.alloc _).adoptAt hbn hm _ hst ⟨s.room, fun _ => by simp [hlen], c, e, hg, by simp [ext, hlen]⟩ ⟨rfl, fun i v hv => ?_⟩ ?_
  · obtain ⟨v', g1, g2⟩ := hr.get i v hv
    refine ⟨v', ?_, VRel.mono (le_add _ hm) _ _ g2, h1 v' (List.mem_of_getElem? g1)⟩
    unfold World.cell?
    rw [show (w.alloc (.cells c e)).heap[(⟨w.heap.size, 0 + i, none⟩ : Addr).block]? = _ from hg]
    simpa using g1
  · intro b' p hp hx
    obtain ⟨_, _, c', e', h3, _⟩ := s.own b' p hp hx
    left
    have := (Array.getElem?_eq_some_iff.1 h3).1
    simp; omega

theorem bslice_run {t e : TypeId} {i : TypeInfo} {zs : List AV} (hu : P.underlying t = some (.slice e)) (hi : P.info? e = some i) (hz : zeroC P e = some zs) {ρ : Operand → AV} {a : Act} (hρ : ∀ x, VRel m (ρ x) (a.eval x)) {n : Nat} {parts : Array (Nat × Operand)} {ap : List (Nat × Nat × AV)}
    (hap : partsAt (fun j => some (j * i.size, i.size)) ρ parts.toList = some ap) {cs : List AV} (hcs : afill (List.replicate n zs).flatten ap = some cs) (hsm : n * i.size ≤ 16777216) (hlen : cs.length = n * i.size) :
    ∃ c : Array Value, VRels m cs c.toList ∧ (∀ x ∈ c.toList, x.oneCell' = true) ∧ c.size = n * i.size ∧ (Instr.buildSlice t n (parts.map fun x => (x.1, a.eval x.2))).run P w = .ok (.slice (some ⟨w.heap.size, 0, none⟩) n n) (w.alloc (.cells c e)) := by
  obtain ⟨i', z, hi', hz', hr, h1, hl, hs⟩ := zeroC_some (m := m) hz
  rw [hi] at hi'; cases hi'
  have hfl := zero_flat (m := m) hr n
  have hmade : (madeCells z.cells (n * i.size)).toList = (List.replicate n z.cells.toList).flatten := by
    apply List.ext_getElem?
    intro j
    by_cases hj : j < n * i.size
    · have hlt : j < ((List.replicate n z.cells.toList).flatten).length := by simp [hs]; exact hj
      rw [List.getElem?_eq_getElem hlt, Array.getElem?_toList]
      exact made_get z.cells n i.size hs j _ (List.getElem?_eq_getElem hlt)
    · rw [List.getElem?_eq_none (by simp [size_madeCells]; omega), List.getElem?_eq_none (by simp [hs]; omega)]
  obtain ⟨cells', g1, g2, g3⟩ := fill_rel hρ _ parts.toList ap _ (madeCells z.cells (n * i.size)) cs hap (by rw [hmade]; exact hfl) (by
    rw [hmade]
    intro x hx
    obtain ⟨l, hl1, hl2⟩ := List.mem_flatten.1 hx
    rw [List.eq_of_mem_replicate hl1] at hl2
    exact h1 x hl2) hcs
  have hsz : cells'.size = n * i.size := by have := g2.length; simp at this; omega
  refine ⟨cells', g2, g3, hsz, ?_⟩
  by_cases h0 : n * i.size = 0
  · have hmk : madeCells z.cells (n * i.size) = #[] := by rw [h0]; simp [madeCells]
    rw [hmk] at g1
    simp [Instr.buildSlice, run_underlying hu, run_size hi, h0, newRow, Array.range_zero', g1]
  · have hsm' : ¬ (16777216 < n * i.size) := by omega
    unfold madeCells at g1
    simp [Instr.buildSlice, run_underlying hu, run_size hi, run_zero hi hz', h0, hsm', newRow, g1]

/-- What the heap has made already, the world makes now. -/
theorem late_run {o : Oper} {a : Act} {ρ : Operand → AV} (hρ : ∀ x, VRel m (ρ x) (a.eval x)) (hnew : (trOp P ρ o.op).news = true) (s : Sim B w0 m h w) {v : AV} (st : (trOp P ρ o.op).still P v h)
    (hb : ∀ b, blkOf (trOp P ρ o.op) v = some b → b < h.n ∧ m b = none) {next : Act → World → Prop} {Q : Exit → Act → World → Prop}
    (hnext : ∀ u m' w', m.le m' → (∀ b, blkOf (trOp P ρ o.op) v ≠ some b → m' b = m b) → Sim B w0 m' h w' → VRel m' v u → next (a.put o.dst u) w') : o.wp P a w next Q := by
  have go : ∀ {x : Sem Value} {u : Value} {w2 : World} {b : Nat} {p : Pl}, x.run P w = .ok u w2 → m b = none → blkOf (trOp P ρ o.op) v = some b → Sim B w0 (m.add b p) h w2 → VRel (m.add b p) v u → o.upon P a next Q ((do pure (.value (← x)) : Sem Next).run P w) := by
    intro x u w2 b p hx hmb hblk hs hv
    have : (do pure (.value (← x)) : Sem Next).run P w = .ok (.value u) w2 := by simp [hx]
    rw [this]
    refine hnext u _ w2 (le_add p hmb) (fun c hc => ?_) hs hv
    have : c ≠ b := fun e => hc (e ▸ hblk)
    simp [BM.add, this]
  cases hop : o.op <;> rw [hop] at hnew st hb go <;> simp only [trOp] at hnew st hb go
  case alloc t =>
    unfold Oper.wp execOp; rw [hop]
    split at hnew
    · rename_i cs hz
      rw [hz] at st hb go
      simp only [AOp.still] at st
      split at st
      · rename_i b
        obtain ⟨st1, st2, st3⟩ := st
        obtain ⟨hbn, hmb⟩ := hb b rfl
        obtain ⟨i, z, hi, hzz, hr, h1, hl, hs⟩ := zeroC_some (m := m) hz
        refine go (b := b) (p := ⟨w.heap.size, 0, z.cells.size, (h.get b).es⟩) (u := .pointer (some ⟨w.heap.size, 0, none⟩)) (w2 := w.alloc (.cells z.cells t)) (by simp [Instr.alloc, run_zero hi hzz, newVar, newRow]) hmb rfl
          (s.makeAt hbn hmb st3 z.cells t (by rw [st1, hl, hs]) (by rw [st1]; exact hr) h1) ?_
        simp only [VRel]; exact ⟨⟨w.heap.size, 0, z.cells.size, (h.get b).es⟩, by simp [BM.add], rfl⟩
      · exact st.elim
    · simp [AOp.news] at hnew
  case box t x =>
    unfold Oper.wp execOp; rw [hop]
    simp only [AOp.still] at st
    split at st
    · rename_i b cs hv
      obtain ⟨st1, st2, st3⟩ := st
      obtain ⟨hbn, hmb⟩ := hb b rfl
      obtain ⟨hr, h1⟩ := cells_rel (hρ x) hv
      refine go (b := b) (p := ⟨w.heap.size, 0, (a.eval x).cells.size, (h.get b).es⟩) (u := .pointer (some ⟨w.heap.size, 0, none⟩)) (w2 := w.alloc (.cells (a.eval x).cells t)) (by simp [Instr.box, newVar, newRow]) hmb rfl
        (s.makeAt hbn hmb st3 (a.eval x).cells t (by rw [st1]; simpa using hr.length) (by rw [st1]; exact hr) h1) ?_
      simp only [VRel]; exact ⟨⟨w.heap.size, 0, (a.eval x).cells.size, (h.get b).es⟩, by simp [BM.add], rfl⟩
    · exact st.elim
  case buildSlice t n parts =>
    unfold Oper.wp execOp; rw [hop]
    split at hnew
    · rename_i e hu
      rw [hu] at st hb go
      simp only at st hb go
      split at hnew
      · rename_i i z hi hz
        rw [hi, hz] at st hb go
        simp only at st hb go
        split at hnew
        · rename_i ap hap
          rw [hap] at st hb go
          simp only at st hb go
          simp only [AOp.still] at st
          split at st
          · rename_i b k cs hcs
            obtain ⟨rfl, q1, q2, st1, st2, st3⟩ := st
            obtain ⟨hbn, hmb⟩ := hb b rfl
            obtain ⟨c, r1, r2, r3, r4⟩ := bslice_run (w := w) hu hi hz hρ hap hcs q1 q2
            refine go (b := b) (p := ⟨w.heap.size, 0, c.size, (h.get b).es⟩) r4 hmb rfl (s.makeAt hbn hmb st3 c e (by rw [st1, q2, r3]) (by rw [st1]; exact r1) r2) ?_
            simp only [VRel]
            exact ⟨⟨w.heap.size, 0, c.size, (h.get b).es⟩, ⟨w.heap.size, 0, none⟩, _, by simp [BM.add], rfl, Nat.le_refl _, by simp [st2, r3], .inr rfl⟩
          · exact st.elim
        · simp [AOp.news] at hnew
      · simp [AOp.news] at hnew
    · simp [AOp.news] at hnew
  all_goals exfalso
  case call c =>
    obtain ⟨callee, args, argTypes⟩ := c
    cases callee with
    | value f =>
      cases f <;> simp only [trCall] at hnew <;> (repeat' split at hnew) <;> simp [AOp.news] at hnew
    | invoke r n => simp [trCall, AOp.news] at hnew
    | builtin b =>
      simp only [trCall] at hnew
      (repeat' split at hnew) <;> simp [AOp.news] at hnew
  case makeFunc fn first caps => cases fn <;> simp only [trOp] at hnew <;> (repeat' split at hnew) <;> simp [AOp.news] at hnew
  case slice t x lo hi mx => cases mx <;> simp only [trOp] at hnew <;> (repeat' split at hnew) <;> simp [AOp.news] at hnew
  all_goals (repeat' split at hnew)
  all_goals simp [AOp.news] at hnew

end Go.Ab
