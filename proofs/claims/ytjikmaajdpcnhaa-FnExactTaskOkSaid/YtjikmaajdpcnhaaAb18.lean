/- Regions that draw their order: the invariant. -/
import Derived.Test.YtjikmaajdpcnhaaAb17
set_option linter.unusedSimpArgs false
set_option linter.unusedVariables false
namespace Go.Ab
open Go.RowKit

variable {B : Nat} {w0 w w' : World} {m m' : BM} {h : AH} {P : Program}

/-- It is done in the shallow program, and the run has not come to it. -/
def Late (ops : Array Oper) (pre : List Nat) (listed : Array Bool) (x : Nat) (o : Oper) : Prop := x ∈ pre ∧ listed.getD x false = false ∧ ops[x]? = some o
def Wait (ops : Array Oper) (pre : List Nat) (listed : Array Bool) (t : Nat) : Prop := ∃ x o, Late ops pre listed x o ∧ o.dst = some t

structure DI (P : Program) (ops : Array Oper) (B : Nat) (w0 : World) (n0 : Nat) (m0 : BM) (a0 : Act) (Q : Nat → List AV → AH → Prop) (kn : List AV → Prog)
    (pre : List Nat) (rest : List (Nat × List Nat)) (listed : Array Bool) (env : List AV) (h : AH) (m : BM) (a : Act) (w : World) : Prop where
  ok : stepsOk ops (ancs ops.toList) pre rest = true
  all : ∀ i, i < ops.size → i ∈ pre ∨ i ∈ rest.map (·.1)
  pops : ∀ x ∈ pre, ∃ o, ops[x]? = some o
  pair : ∀ x y ox oy, x ∈ pre → y ∈ pre → ops[x]? = some ox → ops[y]? = some oy → floats ox = true → floats oy = true →
    (dstIn ox (oy.looksAt ops) = true → x ∈ (ancs ops.toList).getD y []) ∧ (x ≠ y → ∀ d, ox.dst = some d → oy.dst ≠ some d)
  self : ∀ x ox, x ∈ pre → ops[x]? = some ox → floats ox = true → dstIn ox (ox.looksAt ops) = false
  sub : ∀ i, listed.getD i false = true → i ∈ pre
  eff : ∀ i o, i ∈ pre → ops[i]? = some o → floats o = false → listed.getD i false = true
  closed : Closed ops fun i => listed.getD i false = true
  sz : listed.size = ops.size
  sim : Sim B w0 m h w
  grow : Grow n0 m0 h.n m
  dfr : a.defers = []
  kept : Kept (wrOps ops.toList) a0 a
  len : env.length = a.tmps.size
  rel : ∀ t, ¬ Wait ops pre listed t → ∀ x, env[t]? = some x → ∃ v, a.tmps[t]? = some v ∧ VRel m x v
  pend : ∀ x o, Late ops pre listed x o → Pend P ops env h m n0 o
  dist : ∀ x y ox oy, x ≠ y → Late ops pre listed x ox → Late ops pre listed y oy → ∀ b, PB P ops env ox b → ¬ PB P ops env oy b
  go : (trSteps P ops rest env kn).awp P h Q

variable {ops : Array Oper} {n0 : Nat} {m0 : BM} {a0 : Act} {Q : Nat → List AV → AH → Prop} {kn : List AV → Prog} {pre : List Nat} {rest : List (Nat × List Nat)} {listed : Array Bool} {env : List AV} {a : Act}

theorem Pend.look {n0 : Nat} {env env' : List AV} {h h' : AH} {m m' : BM} {o : Oper} (p : Pend P ops env h m n0 o) (hh : ∀ t, t ∈ o.looksAt ops → env'[t]? = env[t]?) (hd : ∀ d, o.dst = some d → env'[d]? = env[d]?) (hl : env'.length = env.length)
    (hs : ∀ d, o.dst = some d → want? ops env o = some true → (∀ b, blkOf (trOp P (evE env) o.op) (env.getD d .un) = some b → b < h.n) → (trOp P (evE env) o.op).still P (env.getD d .un) h → (trOp P (evE env) o.op).still P (env.getD d .un) h')
    (hn : h.n ≤ h'.n) (hm : ∀ b, b < h.n → m' b = m b) : Pend P ops env' h' m' n0 o := by
  obtain ⟨hf, ⟨d, h1, h2, h3⟩, h4⟩ := p
  have e : env'.getD d .un = env.getD d .un := by rw [List.getD_eq_getElem?_getD, hd d h1, ← List.getD_eq_getElem?_getD]
  refine ⟨hf, ⟨d, h1, Nat.lt_of_lt_of_eq h2 hl.symm, ?_⟩, fun b hb => ?_⟩
  · rw [want_look hh, trOp_look hh, e]
    rcases h3 with ⟨h3, h5⟩ | h3
    · exact .inl ⟨h3, hs d h1 h3 (fun b hb => (h4 b ⟨h3, d, h1, hb⟩).1) h5⟩
    · exact .inr h3
  · obtain ⟨g1, g2, g3⟩ := h4 b (pb_look hh hd hb)
    exact ⟨by omega, g2, by rw [hm b g1]; exact g3⟩

theorem DI.ready_anc (s : DI P ops B w0 n0 m0 a0 Q kn pre rest listed env h m a w) {i x : Nat} (hr : i ∈ Region.ready .any ops listed) (hx : x ∈ (ancs ops.toList).getD i []) : listed.getD x false = true := by
  obtain ⟨_, o, ho, hall⟩ := mem_ready.1 hr
  refine ancs_spec s.closed hx fun o' ho' j hj => ?_
  rw [ho] at ho'; cases ho'
  obtain ⟨e, he, rfl⟩ := List.mem_map.1 hj
  obtain ⟨he, hb⟩ := List.mem_filter.1 he
  exact hall e (Array.mem_toList_iff.1 he) hb

/-- What may run early runs early in the shallow program. -/
theorem DI.adv {i : Nat} {cs : List Nat} (s : DI P ops B w0 n0 m0 a0 Q kn pre ((i, cs) :: rest) listed env h m a w) {o : Oper} (so : StepOk ops (ancs ops.toList) pre i cs (rest.map (·.1)) o) (hf : floats o = true) :
    ∃ env' h', DI P ops B w0 n0 m0 a0 Q kn (pre ++ [i]) rest listed env' h' m a w := by
  obtain ⟨_, hok⟩ := stepsOk_cons s.ok
  obtain ⟨rfl, ⟨d, hd⟩, hself⟩ := so.fl hf
  have g := s.go
  unfold trSteps at g
  rw [so.op] at g
  simp only [hd] at g
  split at g
  case isFalse => exact g.elim
  rename_i hlt
  simp only [decide_eq_true_eq] at hlt
  obtain ⟨v, h', g1, g2⟩ := trOper_adv hf g
  rw [hd] at g1
  simp only [trChk] at g1
  have hun : listed.getD i false = false := by
    cases hb : listed.getD i false
    · rfl
    · exact absurd (s.sub i hb) so.new
  have hat : ∀ t, t ≠ d → (setE env (some d) v)[t]? = env[t]? := fun t ht => set_ne v (fun e => ht (by cases e; rfl))
  have hati : ∀ t, t ∈ o.looksAt ops → (setE env (some d) v)[t]? = env[t]? := fun t ht => hat t (fun e => not_dstIn hself ht (e ▸ hd))
  have hgd : (setE env (some d) v).getD d .un = v := by simp [setE, List.getD_eq_getElem?_getD, hlt]
  have hl : (setE env (some d) v).length = env.length := setE_length _ _ _
  have hn : h.n ≤ h'.n := by
    rcases g2 with ⟨_, _, ⟨_, e⟩ | ⟨_, k, _, e⟩⟩ | ⟨_, _, e⟩ <;> subst e <;> simp [AH.push]
  have hsim : Sim B w0 m h' w := by
    rcases g2 with ⟨_, _, ⟨_, e⟩ | ⟨_, k, hk, e⟩⟩ | ⟨_, _, e⟩ <;> subst e
    · exact s.sim
    · exact s.sim.pushv k hk
    · exact s.sim
  have hlate : ∀ x ox, Late ops (pre ++ [i]) listed x ox → (x ≠ i ∧ Late ops pre listed x ox) ∨ (x = i ∧ ox = o) := by
    rintro x ox ⟨h1, h2, h3⟩
    rcases List.mem_append.1 h1 with e | e
    · exact .inl ⟨fun e' => so.new (e' ▸ e), e, h2, h3⟩
    · simp at e; subst e
      rw [so.op] at h3; cases h3; exact .inr ⟨rfl, rfl⟩
  have hold : ∀ x ox, Late ops pre listed x ox → floats ox = true ∧ (∀ t, t ∈ ox.looksAt ops → (setE env (some d) v)[t]? = env[t]?) ∧ (∀ d', ox.dst = some d' → (setE env (some d) v)[d']? = env[d']?) := by
    rintro x ox hx
    obtain ⟨ox', ho', _, q, _⟩ := so.old x hx.1
    rw [hx.2.2] at ho'; cases ho'
    obtain ⟨q1, q2⟩ := q hf
    refine ⟨(s.pend x ox hx).1, fun t ht => hat t fun e => not_dstIn q1 ht (e ▸ hd), fun d' hd' => hat d' fun e => ?_⟩
    rcases q2 with q2 | q2
    · rw [hd'] at q2; cases q2
    · exact q2 (by rw [hd', hd, e])
  have hpb : ∀ b, PB P ops (setE env (some d) v) o b → b = h.n ∧ h'.n = h.n + 1 := by
    rintro b ⟨p1, d', p2, p3⟩
    rw [hd] at p2; cases p2
    rw [trOp_look hati, hgd] at p3
    rw [want_look hati] at p1
    rcases g2 with ⟨_, _, ⟨q, e⟩ | ⟨q, k, _, e⟩⟩ | ⟨q, _, _⟩
    · exact absurd p3 (q b)
    · rw [q] at p3; cases p3; subst e; exact ⟨rfl, rfl⟩
    · rw [q] at p1; cases p1
  refine ⟨setE env (some d) v, h', hok, ?_, ?_, ?_, ?_, fun j hj => List.mem_append_left _ (s.sub j hj), ?_, s.closed, s.sz, hsim, ⟨Nat.le_trans s.grow.1 hn, s.grow.2⟩, s.dfr, s.kept, by rw [hl]; exact s.len, ?_, ?_, ?_, g1⟩
  · intro j hj
    rcases s.all j hj with e | e
    · exact .inl (List.mem_append_left _ e)
    · rcases List.mem_cons.1 e with e | e
      · exact .inl (by simp [e])
      · exact .inr e
  · intro x hx
    rcases List.mem_append.1 hx with e | e
    · exact s.pops x e
    · simp at e; subst e; exact ⟨o, so.op⟩
  · intro x y ox oy hx hy hox hoy fx fy
    rcases List.mem_append.1 hx with ex | ex <;> rcases List.mem_append.1 hy with ey | ey
    · exact s.pair x y ox oy ex ey hox hoy fx fy
    · simp at ey; subst ey
      rw [so.op] at hoy; cases hoy
      obtain ⟨ox', ho', q1, q2, _⟩ := so.old x ex
      rw [hox] at ho'; cases ho'
      refine ⟨q1, fun _ d1 hd1 hd2 => ?_⟩
      rcases (q2 hf).2 with q | q
      · rw [hd1] at q; cases q
      · exact q (by rw [hd1, hd2])
    · simp at ex; subst ex
      rw [so.op] at hox; cases hox
      obtain ⟨oy', ho', q1, q2, _⟩ := so.old y ey
      rw [hoy] at ho'; cases ho'
      refine ⟨fun q => ?_, fun _ d1 hd1 hd2 => ?_⟩
      · rw [(q2 hf).1] at q; cases q
      · rcases (q2 hf).2 with q | q
        · rw [hd2] at q; cases q
        · exact q (by rw [hd1, hd2])
    · simp at ex ey; subst ex; subst ey
      rw [so.op] at hox hoy; cases hox; cases hoy
      exact ⟨fun q => (by rw [hself] at q; cases q), fun q => absurd rfl q⟩
  · intro x ox hx hox fx
    rcases List.mem_append.1 hx with e | e
    · exact s.self x ox e hox fx
    · simp at e; subst e; rw [so.op] at hox; cases hox; exact hself
  · intro x ox hx hox fx
    rcases List.mem_append.1 hx with e | e
    · exact s.eff x ox e hox fx
    · simp at e; subst e; rw [so.op] at hox; cases hox; rw [hf] at fx; cases fx
  · intro t ht x hx
    have hne : t ≠ d := fun e => ht ⟨i, o, ⟨by simp, hun, so.op⟩, by rw [hd, e]⟩
    rw [hat t hne] at hx
    exact s.rel t (fun ⟨y, oy, ⟨h1, h2⟩, h3⟩ => ht ⟨y, oy, ⟨List.mem_append_left _ h1, h2⟩, h3⟩) x hx
  · intro x ox hx
    rcases hlate x ox hx with ⟨_, hx⟩ | ⟨rfl, rfl⟩
    · obtain ⟨q0, q1, q2⟩ := hold x ox hx
      refine (s.pend x ox hx).look q1 q2 hl ?_ hn fun b hb => rfl
      intro d' hd' _ hb hst
      rcases g2 with ⟨_, _, ⟨_, e⟩ | ⟨_, k, hk, e⟩⟩ | ⟨_, _, e⟩ <;> subst e
      · exact hst
      · exact still_push (fl_of q0) k s.sim.fresh hb hst
      · exact hst
    · refine ⟨hf, ⟨d, hd, Nat.lt_of_lt_of_eq hlt hl.symm, ?_⟩, fun b hb => ?_⟩
      · rw [want_look hati, trOp_look hati, hgd]
        rcases g2 with ⟨q1, q2, _⟩ | ⟨q1, q2, _⟩
        · exact .inl ⟨q1, q2⟩
        · exact .inr ⟨q1, q2⟩
      · obtain ⟨rfl, e⟩ := hpb b hb
        refine ⟨by omega, s.grow.1, ?_⟩
        cases hm : m h.n with
        | none => rfl
        | some p => have := s.sim.dom _ _ hm; omega
  · intro x y ox oy hne hx hy b hbx hby
    rcases hlate x ox hx with ⟨_, hx'⟩ | ⟨ex, eo⟩ <;> rcases hlate y oy hy with ⟨_, hy'⟩ | ⟨ey, eo'⟩
    · obtain ⟨_, q1, q2⟩ := hold x ox hx'
      obtain ⟨_, r1, r2⟩ := hold y oy hy'
      exact s.dist x y ox oy hne hx' hy' b (pb_look q1 q2 hbx) (pb_look r1 r2 hby)
    · subst ey; subst eo'
      obtain ⟨_, q1, q2⟩ := hold x ox hx'
      have := ((s.pend x ox hx').2.2 b (pb_look q1 q2 hbx)).1
      have := (hpb b hby).1
      omega
    · subst ex; subst eo
      obtain ⟨_, q1, q2⟩ := hold y oy hy'
      have := ((s.pend y oy hy').2.2 b (pb_look q1 q2 hby)).1
      have := (hpb b hbx).1
      omega
    · exact hne (ex.trans ey.symm)

end Go.Ab
