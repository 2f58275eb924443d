/- Regions that draw their order: every order does the same. -/
import Derived.Test.YtjikmaajdpcnhaaAb18
set_option linter.unusedSimpArgs false
set_option linter.unusedVariables false
namespace Go.Ab
open Go.RowKit

variable {B : Nat} {w0 w w' : World} {m m' : BM} {h : AH} {P : Program}
variable {ops : Array Oper} {n0 : Nat} {m0 : BM} {a0 : Act} {Q : Nat → List AV → AH → Prop} {kn : List AV → Prog} {pre : List Nat} {rest : List (Nat × List Nat)} {listed : Array Bool} {env : List AV} {a : Act}

theorem wrOps_mem {o : Oper} {d : Nat} (hd : o.dst = some d) : ∀ {l : List Oper}, o ∈ l → d ∈ wrOps l
  | [], hm => by cases hm
  | x :: l, hm => by
    unfold wrOps
    rcases List.mem_cons.1 hm with e | e
    · subst e; simp [hd]
    · have := wrOps_mem hd e
      split
      · exact List.mem_cons_of_mem _ this
      · exact this

open Classical in
/-- What the run knows. -/
noncomputable def DI.rho (ops : Array Oper) (pre : List Nat) (listed : Array Bool) (env : List AV) (x : Operand) : AV :=
  if ∃ t, x = .tmp t ∧ Wait ops pre listed t then .un else evE env x

theorem DI.rho_rel (s : DI P ops B w0 n0 m0 a0 Q kn pre rest listed env h m a w) (x : Operand) : VRel m (DI.rho ops pre listed env x) (a.eval x) := by
  unfold DI.rho
  split
  · exact vrel_un _
  · rename_i hx
    cases x with
    | tmp t =>
      have ht : ¬ Wait ops pre listed t := fun h => hx ⟨t, rfl, h⟩
      simp only [evE, Act.eval, List.getD_eq_getElem?_getD]
      cases he : env[t]? with
      | none => exact vrel_un _
      | some y =>
        obtain ⟨v, h1, h2⟩ := s.rel t ht y he
        simpa [h1] using h2
    | const v => exact vrel_ofVal v
    | global g => exact vrel_un _
    | func f => simp only [evE, Act.eval, VRel]; exact ⟨[], VRels.nil, rfl⟩

theorem DI.rho_op {o : Oper} (hl : ∀ t, t ∈ o.looksAt ops → ¬ Wait ops pre listed t) : trOp P (DI.rho ops pre listed env) o.op = trOp P (evE env) o.op :=
  trOp_congr o.op fun x hx => by
    unfold DI.rho
    rw [if_neg]
    rintro ⟨t, rfl, hw⟩
    exact hl t (looks_op hx) hw

theorem DI.rho_gv (s : DI P ops B w0 n0 m0 a0 Q kn pre rest listed env h m a w) {o : Oper} (hl : ∀ t, t ∈ o.looksAt ops → ¬ Wait ops pre listed t) (j : Nat) (wt : Bool) (hg : o.guard = some (j, wt)) :
    (∀ b, gvE ops env j = .bool b → yielded ops a.tmps j = some b) ∧ (gvE ops env j = .tup [] → yielded ops a.tmps j = none) :=
  gv_yields fun t oj hj hd => ⟨s.rel t (hl t (looks_guard hg hj hd)), fun he => by
    have := List.getElem?_eq_none_iff.1 he
    exact Array.getElem?_eq_none (by have := s.len; omega)⟩

theorem late_any {o : Oper} (hf : floats o = true) {a : Act} {ρ : Operand → AV} (hρ : ∀ x, VRel m (ρ x) (a.eval x)) (s : Sim B w0 m h w) {v : AV} (st : (trOp P ρ o.op).still P v h)
    (hb : ∀ b, blkOf (trOp P ρ o.op) v = some b → b < h.n ∧ m b = none) {next : Act → World → Prop} {Q : Exit → Act → World → Prop}
    (hnext : ∀ u m' w', m.le m' → (∀ b, blkOf (trOp P ρ o.op) v ≠ some b → m' b = m b) → Sim B w0 m' h w' → VRel m' v u → next (a.put o.dst u) w') : o.wp P a w next Q := by
  cases hn : (trOp P ρ o.op).news with
  | true => exact late_run hρ hn s st hb hnext
  | false =>
    refine op_sound hρ s (still_go hn st) ?_
    rintro u av m' h' w' g1 g2 g3 ⟨rfl, rfl⟩
    exact hnext u m' w' (g1.le s) (fun b _ => by
      by_cases e : b < h'.n
      · exact g1.2 b e
      · cases h1 : m' b with
        | some p => exact absurd (g2.dom b p h1) e
        | none => cases h2 : m b with
          | some p => exact absurd (s.dom b p h2) e
          | none => rfl) g2 g3

theorem DI.wanted (s : DI P ops B w0 n0 m0 a0 Q kn pre rest listed env h m a w) {o : Oper} (hl : ∀ t, t ∈ o.looksAt ops → ¬ Wait ops pre listed t) {b : Bool} (hw : want? ops env o = some b) : Region.wanted o (yielded ops a.tmps) = b := by
  unfold want? at hw
  unfold Region.wanted
  cases hg : o.guard with
  | none => rw [hg] at hw; simp at hw; exact hw ▸ rfl
  | some jw =>
    obtain ⟨j, wt⟩ := jw
    rw [hg] at hw
    simp only at hw ⊢
    obtain ⟨h1, h2⟩ := s.rho_gv hl j wt hg
    split at hw
    · rename_i c hc
      rw [h1 c hc]
      simp only [Option.some.injEq] at hw
      subst hw
      cases c <;> cases wt <;> rfl
    · rename_i hc
      rw [h2 hc]
      simp only [Option.some.injEq] at hw
      subst hw
      cases wt <;> rfl
    · cases hw

theorem getD_set_self {i : Nat} (hi : i < listed.size) (d : Bool) : (listed.setIfInBounds i true).getD i d = true := by simp [hi]

/-- What ran early runs now. -/
theorem DI.replay (s : DI P ops B w0 n0 m0 a0 Q kn pre rest listed env h m a w) {i : Nat} (hp : i ∈ pre) (hr : i ∈ Region.ready .any ops listed) {Qx : Exit → Act → World → Prop} :
    wpOp P ops Qx i (fun a' w' => ∃ m', DI P ops B w0 n0 m0 a0 Q kn pre rest (listed.setIfInBounds i true) env h m' a' w') a w := by
  obtain ⟨hun, o, ho, hall⟩ := mem_ready.1 hr
  have hisz : i < ops.size := (Array.getElem?_eq_some_iff.1 ho).1
  have hil : i < listed.size := by rw [s.sz]; exact hisz
  have hun' : listed.getD i false = false := by
    rw [Array.getD_eq_getD_getElem?] at hun ⊢
    simpa [hil] using hun
  have hf : floats o = true := by
    cases hb : floats o
    · have := s.eff i o hp ho hb; rw [this] at hun'; cases hun'
    · rfl
  have hlate : Late ops pre listed i o := ⟨hp, hun', ho⟩
  obtain ⟨_, ⟨d, hd, hdl, hv⟩, hblk⟩ := s.pend i o hlate
  have hl : ∀ t, t ∈ o.looksAt ops → ¬ Wait ops pre listed t := by
    rintro t ht ⟨x, ox, hx, hxd⟩
    have := (s.pair x i ox o hx.1 hp hx.2.2 ho (s.pend x ox hx).1 hf).1 (dstIn_of ht hxd)
    have := s.ready_anc hr this
    rw [hx.2.1] at this; cases this
  -- the invariant behind it
  have done : ∀ u m' w', m.le m' → (∀ b, ¬ PB P ops env o b → m' b = m b) → Sim B w0 m' h w' → VRel m' (env.getD d .un) u →
      DI P ops B w0 n0 m0 a0 Q kn pre rest (listed.setIfInBounds i true) env h m' (a.put o.dst u) w' := by
    intro u m' w' g1 g2 g3 g4
    have hset : ∀ j, j ≠ i → (listed.setIfInBounds i true).getD j false = listed.getD j false := fun j hj => getD_set_ne false (Ne.symm hj)
    have hl2 : ∀ x ox, Late ops pre (listed.setIfInBounds i true) x ox → x ≠ i ∧ Late ops pre listed x ox := by
      rintro x ox ⟨h1, h2, h3⟩
      have hne : x ≠ i := fun e => by rw [e, getD_set_self hil] at h2; cases h2
      exact ⟨hne, h1, by rw [← hset x hne]; exact h2, h3⟩
    refine ⟨s.ok, s.all, s.pops, s.pair, s.self, ?_, ?_, ?_, by simpa using s.sz, g3, ⟨s.grow.1, ?_⟩, by rw [hd]; exact s.dfr, ?_, ?_, ?_, ?_, ?_, s.go⟩
    · intro j hj
      by_cases e : j = i
      · subst e; exact hp
      · rw [hset j e] at hj; exact s.sub j hj
    · intro j oj hj hoj fj
      exact getD_set_true (s.eff j oj hj hoj fj)
    · intro k ok hk hlk j hj
      by_cases e : k = i
      · subst e
        rw [ho] at hk; cases hk
        obtain ⟨e, he, rfl⟩ := List.mem_map.1 hj
        obtain ⟨he, hb⟩ := List.mem_filter.1 he
        exact getD_set_true (hall e (Array.mem_toList_iff.1 he) hb)
      · exact getD_set_true (s.closed k ok hk ((hset k e).symm.trans hlk) j hj)
    · intro b hb
      rw [g2 b fun p => ?_]
      · exact s.grow.2 b hb
      · have := (hblk b p).2.1; omega
    · exact (s.kept.trans (Kept.put (W := wrOps ops.toList) a o.dst u fun d' hd' => wrOps_mem hd' (by rw [← Array.getElem?_toList] at ho; exact List.mem_of_getElem? ho))).mono fun t ht => by simpa using ht
    · rw [hd]; simpa [Act.put] using s.len
    · intro t ht x hx
      by_cases e : t = d
      · subst e
        rw [List.getD_eq_getElem?_getD, hx] at g4
        refine ⟨u, ?_, g4⟩
        have : t < a.tmps.size := by rw [← s.len]; exact hdl
        rw [hd]; simp [Act.put, this]
      · have hnw : ¬ Wait ops pre listed t := by
          rintro ⟨x, ox, hx1, hx2⟩
          by_cases e' : x = i
          · subst e'
            have := hx1.2.2; rw [ho] at this; cases this
            rw [hd] at hx2; cases hx2; exact e rfl
          · exact ht ⟨x, ox, ⟨hx1.1, by rw [hset x e']; exact hx1.2.1, hx1.2.2⟩, hx2⟩
        obtain ⟨v, h1, h2⟩ := s.rel t hnw x hx
        refine ⟨v, ?_, VRel.mono g1 _ _ h2⟩
        rw [hd]; simpa [Act.put, Array.getElem?_setIfInBounds_ne (Ne.symm e)] using h1
    · intro x ox hx
      obtain ⟨hne, hx'⟩ := hl2 x ox hx
      obtain ⟨q1, q2, q3⟩ := s.pend x ox hx'
      refine ⟨q1, q2, fun b hb => ?_⟩
      obtain ⟨r1, r2, r3⟩ := q3 b hb
      exact ⟨r1, r2, by rw [g2 b fun p => s.dist x i ox o hne hx' hlate b hb p]; exact r3⟩
    · intro x y ox oy hne hx hy b
      exact s.dist x y ox oy hne (hl2 x ox hx).2 (hl2 y oy hy).2 b
  unfold wpOp
  rw [ho]
  simp only
  rcases hv with ⟨hw, hst⟩ | ⟨hw, hst⟩
  · rw [if_pos (s.wanted hl hw)]
    left
    refine late_any (ρ := DI.rho ops pre listed env) hf s.rho_rel s.sim (v := env.getD d .un) (by rw [DI.rho_op hl]; exact hst) ?_ ?_
    · intro b hb
      rw [DI.rho_op hl] at hb
      obtain ⟨q1, _, q2⟩ := hblk b ⟨hw, d, hd, hb⟩
      exact ⟨q1, q2⟩
    · intro u m' w' g1 g2 g3 g4
      refine ⟨m', done u m' w' g1 (fun b hb => g2 b fun e => hb ⟨hw, d, hd, ?_⟩) g3 g4⟩
      rw [DI.rho_op hl] at e; exact e
  · rw [if_neg (by rw [s.wanted hl hw]; simp)]
    refine ⟨m, done undef m w m.le_refl (fun _ _ => rfl) s.sim ?_⟩
    rw [hst]; exact vrel_tup0

/-- An effect. -/
theorem DI.effect {i : Nat} {cs : List Nat} (s : DI P ops B w0 n0 m0 a0 Q kn pre ((i, cs) :: rest) listed env h m a w) {o : Oper} (so : StepOk ops (ancs ops.toList) pre i cs (rest.map (·.1)) o) (hf : floats o = false) (hr : i ∈ Region.ready .any ops listed) {Qx : Exit → Act → World → Prop} :
    wpOp P ops Qx i (fun a' w' => ∃ env' h' m', DI P ops B w0 n0 m0 a0 Q kn (pre ++ [i]) rest (listed.setIfInBounds i true) env' h' m' a' w') a w := by
  obtain ⟨_, hok⟩ := stepsOk_cons s.ok
  obtain ⟨hun, o', ho, hall⟩ := mem_ready.1 hr
  rw [so.op] at ho; cases ho
  have ho := so.op
  have hisz : i < ops.size := (Array.getElem?_eq_some_iff.1 ho).1
  have hil : i < listed.size := by rw [s.sz]; exact hisz
  have hl : ∀ t, t ∈ o.looksAt ops → ¬ Wait ops pre listed t := by
    rintro t ht ⟨x, ox, hx, hxd⟩
    obtain ⟨ox', hox, q, _⟩ := so.old x hx.1
    rw [hx.2.2] at hox; cases hox
    have := s.ready_anc hr (q (dstIn_of ht hxd))
    rw [hx.2.1] at this; cases this
  have hlt : ∀ d, o.dst = some d → d < env.length := by
    intro d hd
    have g := s.go
    unfold trSteps at g
    rw [so.op] at g
    simp only [hd] at g
    split at g
    case isFalse => exact g.elim
    rename_i hlt
    simpa only [decide_eq_true_eq] using hlt
  have g : (trOper P ops o env fun env' => trChk P ops env' cs (trSteps P ops rest env' kn)).awp P h Q := by
    have g := s.go
    unfold trSteps at g
    rw [so.op] at g
    simp only at g
    cases hd : o.dst with
    | none => simpa only [hd, if_true] using g
    | some d =>
      have := hlt d hd
      simpa only [hd, this, decide_true, if_true] using g
  refine oper_run ho (ρ := DI.rho ops pre listed env) s.rho_rel (DI.rho_op hl) (fun j wt hg => s.rho_gv hl j wt hg) s.sim g ?_
  intro u av m' h' w' g1 g2 g3 g4
  obtain ⟨g5, g6⟩ := trChk_spec g4
  have hle := g1.le s.sim
  have hset : ∀ j, j ≠ i → (listed.setIfInBounds i true).getD j false = listed.getD j false := fun j hj => getD_set_ne false (Ne.symm hj)
  have hl2 : ∀ x ox, Late ops (pre ++ [i]) (listed.setIfInBounds i true) x ox → x ≠ i ∧ Late ops pre listed x ox := by
    rintro x ox ⟨h1, h2, h3⟩
    have hne : x ≠ i := fun e => by rw [e, getD_set_self hil] at h2; cases h2
    refine ⟨hne, ?_, by rw [← hset x hne]; exact h2, h3⟩
    rcases List.mem_append.1 h1 with e | e
    · exact e
    · simp at e; exact absurd e hne
  have hold : ∀ x ox, Late ops pre listed x ox → floats ox = true ∧ (∀ t, t ∈ ox.looksAt ops → (setE env o.dst av)[t]? = env[t]?) ∧ (∀ d', ox.dst = some d' → (setE env o.dst av)[d']? = env[d']?) ∧ (hangs ox = true → x ∈ cs) := by
    rintro x ox hx
    obtain ⟨ox', hox, _, _, q⟩ := so.old x hx.1
    rw [hx.2.2] at hox; cases hox
    rcases q hf with q | ⟨q0, q1, q2, q3⟩
    · have := s.ready_anc hr q
      rw [hx.2.1] at this; cases this
    · refine ⟨q0, fun t ht => set_ne av (not_dstIn q1 ht), fun d' hd' => set_ne av fun e => ?_, q3⟩
      rcases q2 with q2 | q2
      · rw [hd'] at q2; cases q2
      · exact q2 (by rw [hd', e])
  refine ⟨setE env o.dst av, h', m', hok, ?_, ?_, ?_, ?_, ?_, ?_, ?_, by simpa using s.sz, g2, s.grow.trans g1, by cases hd : o.dst <;> exact s.dfr, ?_, ?_, ?_, ?_, ?_, g5⟩
  · intro j hj
    rcases s.all j hj with e | e
    · exact .inl (List.mem_append_left _ e)
    · rcases List.mem_cons.1 e with e | e
      · exact .inl (by simp [e])
      · exact .inr e
  · intro x hx
    rcases List.mem_append.1 hx with e | e
    · exact s.pops x e
    · simp at e; subst e; exact ⟨o, so.op⟩
  · intro x y ox oy hx hy hox hoy fx fy
    rcases List.mem_append.1 hx with ex | ex
    · rcases List.mem_append.1 hy with ey | ey
      · exact s.pair x y ox oy ex ey hox hoy fx fy
      · simp at ey; subst ey
        rw [so.op] at hoy; cases hoy; rw [hf] at fy; cases fy
    · simp at ex; subst ex
      rw [so.op] at hox; cases hox; rw [hf] at fx; cases fx
  · intro x ox hx hox fx
    rcases List.mem_append.1 hx with e | e
    · exact s.self x ox e hox fx
    · simp at e; subst e; rw [so.op] at hox; cases hox; rw [hf] at fx; cases fx
  · intro j hj
    by_cases e : j = i
    · simp [e]
    · rw [hset j e] at hj; exact List.mem_append_left _ (s.sub j hj)
  · intro x ox hx hox fx
    rcases List.mem_append.1 hx with e | e
    · exact getD_set_true (s.eff x ox e hox fx)
    · simp at e; subst e; exact getD_set_self hil _
  · intro k ok hk hlk j hj
    by_cases e : k = i
    · subst e
      rw [ho] at hk; cases hk
      obtain ⟨e, he, rfl⟩ := List.mem_map.1 hj
      obtain ⟨he, hb⟩ := List.mem_filter.1 he
      exact getD_set_true (hall e (Array.mem_toList_iff.1 he) hb)
    · exact getD_set_true (s.closed k ok hk ((hset k e).symm.trans hlk) j hj)
  · exact (s.kept.trans (Kept.put (W := wrOps ops.toList) a o.dst u fun d' hd' => wrOps_mem hd' (by rw [← Array.getElem?_toList] at ho; exact List.mem_of_getElem? ho))).mono fun t ht => by simpa using ht
  · rw [setE_length, s.len]; cases o.dst <;> simp [Act.put]
  · intro t ht x hx
    by_cases e : o.dst = some t
    · have h1 := hlt t e
      have h2 : t < a.tmps.size := by rw [← s.len]; exact h1
      rw [e] at hx ⊢
      simp [setE, h1] at hx
      subst hx
      exact ⟨u, by simp [Act.put, h2], g3⟩
    · rw [set_ne av e] at hx
      obtain ⟨v, h1, h2⟩ := s.rel t (by
        rintro ⟨y, oy, hy, hyd⟩
        have hne : y ≠ i := fun e' => so.new (e' ▸ hy.1)
        exact ht ⟨y, oy, ⟨List.mem_append_left _ hy.1, by rw [hset y hne]; exact hy.2.1, hy.2.2⟩, hyd⟩) x hx
      refine ⟨v, ?_, VRel.mono hle _ _ h2⟩
      cases hd : o.dst with
      | none => exact h1
      | some d =>
        have hne : d ≠ t := fun e' => e (by rw [hd, e'])
        simpa [Act.put, Array.getElem?_setIfInBounds_ne hne] using h1
  · intro x ox hx
    obtain ⟨hne, hx'⟩ := hl2 x ox hx
    obtain ⟨q0, q1, q2, q3⟩ := hold x ox hx'
    refine (s.pend x ox hx').look q1 q2 (setE_length _ _ _) ?_ g1.1 fun b hb => g1.2 b hb
    intro d' hd' hw hb hst
    cases hh : hangs ox with
    | false => exact still_pure (fl_of q0) (deps_of hh q0) hst
    | true =>
      obtain ⟨ox', d2, r1, r2, r3⟩ := g6 x (q3 hh)
      rw [hx'.2.2] at r1; cases r1
      rw [hd'] at r2; cases r2
      have := r3 (by rw [want_look q1]; exact hw)
      rw [trOp_look q1, List.getD_eq_getElem?_getD, q2 d' hd', ← List.getD_eq_getElem?_getD] at this
      exact this
  · intro x y ox oy hne hx hy b hbx hby
    obtain ⟨_, hx'⟩ := hl2 x ox hx
    obtain ⟨_, hy'⟩ := hl2 y oy hy
    obtain ⟨_, q1, q2, _⟩ := hold x ox hx'
    obtain ⟨_, r1, r2, _⟩ := hold y oy hy'
    exact s.dist x y ox oy hne hx' hy' b (pb_look q1 q2 hbx) (pb_look r1 r2 hby)

theorem DI.reach {i : Nat} : ∀ {rest : List (Nat × List Nat)} {pre : List Nat} {env : List AV} {h : AH}, DI P ops B w0 n0 m0 a0 Q kn pre rest listed env h m a w → i ∈ rest.map (·.1) → i ∈ Region.ready .any ops listed →
    ∃ pre' cs rest' env' h', DI P ops B w0 n0 m0 a0 Q kn pre' ((i, cs) :: rest') listed env' h' m a w
  | [], _, _, _, _, hi, _ => by simp at hi
  | (j, cs) :: rest, pre, env, h, s, hi, hr => by
    by_cases e : i = j
    · subst e; exact ⟨pre, cs, rest, env, h, s⟩
    · have hi' : i ∈ rest.map (·.1) := by
        rcases List.mem_cons.1 hi with e' | e'
        · exact absurd e' e
        · exact e'
      obtain ⟨⟨o, so⟩, _⟩ := stepsOk_cons s.ok
      cases hf : floats o with
      | false =>
        have := s.ready_anc hr (so.ef hf i hi')
        exact absurd (s.sub j this) so.new
      | true =>
        obtain ⟨env', h', s'⟩ := s.adv so hf
        exact s'.reach hi' hr

theorem DI.any {Qx : Exit → Act → World → Prop} (steps : List (Nat × List Nat)) (hsteps : stepsOk ops (ancs ops.toList) [] steps = true) (hall : ∀ i, i < ops.size → i ∈ steps.map (·.1))
    (hQ : ∀ env' a' m' h' w', Grow n0 m0 h'.n m' → Sim B w0 m' h' w' → VRels m' env' a'.tmps.toList → a'.defers = [] → Kept (wrOps ops.toList) a0 a' → (kn env').awp P h' Q → Qx .normal a' w') :
    ∀ (fuel : Nat) (listed : Array Bool) (pre : List Nat) (rest : List (Nat × List Nat)) (env : List AV) (h : AH) (m : BM) (a : Act) (w : World), DI P ops B w0 n0 m0 a0 Q kn pre rest listed env h m a w →
      (List.range ops.size).countP (fun i => !listed.getD i true) ≤ fuel → wpAny P .any ops Qx fuel listed a w := by
  have fin : ∀ (listed : Array Bool) (pre : List Nat) (rest : List (Nat × List Nat)) (env : List AV) (h : AH) (m : BM) (a : Act) (w : World), DI P ops B w0 n0 m0 a0 Q kn pre rest listed env h m a w → Region.ready .any ops listed = [] → Qx .normal a w := by
    intro listed pre rest env h m a w s hnil
    have hl : ∀ i, i < ops.size → listed.getD i false = true := by
      intro i hi
      cases hb : listed.getD i false with
      | true => rfl
      | false =>
        exfalso
        obtain ⟨j, o, ho, hn, hp⟩ := steps_first (L := fun j => listed.getD j false = true) steps [] hsteps (by simp) ⟨i, hall i hi, by simp only [hb]; simp⟩
        have hj : j < listed.size := by rw [s.sz]; exact (Array.getElem?_eq_some_iff.1 ho).1
        have : j ∈ Region.ready .any ops listed := by
          rw [mem_ready]
          refine ⟨?_, o, ho, fun e he hb => hp e.on (List.mem_map.2 ⟨e, List.mem_filter.2 ⟨Array.mem_toList_iff.2 he, hb⟩, rfl⟩)⟩
          simp only [Bool.not_eq_true] at hn
          rw [Array.getD_eq_getD_getElem?] at hn ⊢
          simpa [hj] using hn
        rw [hnil] at this; cases this
    have hrest : rest = [] := by
      cases hr : rest with
      | nil => rfl
      | cons ic r =>
        subst hr
        obtain ⟨j, cs⟩ := ic
        obtain ⟨⟨o, so⟩, _⟩ := stepsOk_cons s.ok
        exact absurd (s.sub j (hl j (Array.getElem?_eq_some_iff.1 so.op).1)) so.new
    subst hrest
    refine hQ env a m h w s.grow s.sim ?_ s.dfr s.kept (by simpa only [trSteps] using s.go)
    refine VRels.of_get (by simpa using s.len) fun t x v hx hv => ?_
    obtain ⟨v', h1, h2⟩ := s.rel t (by
      rintro ⟨y, oy, hy, _⟩
      have := hl y (Array.getElem?_eq_some_iff.1 hy.2.2).1
      rw [hy.2.1] at this; cases this) x hx
    rw [Array.getElem?_toList, h1] at hv
    cases hv; exact h2
  intro fuel
  induction fuel with
  | zero =>
    intro listed pre rest env h m a w s hc
    have hnil : Region.ready .any ops listed = [] := by
      cases hr : Region.ready .any ops listed with
      | nil => rfl
      | cons j r =>
        obtain ⟨h1, o, ho, _⟩ := mem_ready.1 (show j ∈ Region.ready .any ops listed by rw [hr]; simp)
        have : 0 < (List.range ops.size).countP (fun i => !listed.getD i true) := List.countP_pos_iff.2 ⟨j, List.mem_range.2 (Array.getElem?_eq_some_iff.1 ho).1, by simp only [h1]; rfl⟩
        omega
    exact ⟨hnil, fin listed pre rest env h m a w s hnil⟩
  | succ fuel ih =>
    intro listed pre rest env h m a w s hc
    refine ⟨fin listed pre rest env h m a w s, fun i hi => ?_⟩
    obtain ⟨h1, o, ho, _⟩ := mem_ready.1 hi
    have hisz : i < ops.size := (Array.getElem?_eq_some_iff.1 ho).1
    have hil : i < listed.size := by rw [s.sz]; exact hisz
    have hc' : (List.range ops.size).countP (fun j => !(listed.setIfInBounds i true).getD j true) ≤ fuel := by
      have := countP_lt (p := fun j => !listed.getD j true) (q := fun j => !(listed.setIfInBounds i true).getD j true) (List.mem_range.2 hisz) (fun j hj => by
        by_cases e : j = i
        · subst e; simp only [getD_set_self hil] at hj; cases hj
        · simp only [getD_set_ne true (Ne.symm e)] at hj; exact hj) (by simp only [h1]; rfl) (by simp only [getD_set_self hil]; rfl)
      omega
    have rep : ∀ {pre rest env h}, DI P ops B w0 n0 m0 a0 Q kn pre rest listed env h m a w → i ∈ pre → wpOp P ops Qx i (wpAny P .any ops Qx fuel (listed.setIfInBounds i true)) a w := fun s hp =>
      wpOp_mono (fun a' w' ⟨m', s'⟩ => ih _ _ _ _ _ _ _ _ s' hc') (s.replay hp hi)
    rcases s.all i hisz with hp | hp
    · exact rep s hp
    · obtain ⟨pre', cs, rest', env', h', s'⟩ := s.reach hp hi
      obtain ⟨⟨o', so⟩, _⟩ := stepsOk_cons s'.ok
      cases hf : floats o' with
      | true =>
        obtain ⟨env2, h2, s2⟩ := s'.adv so hf
        exact rep s2 (by simp)
      | false => exact wpOp_mono (fun a' w' ⟨_, _, _, s'⟩ => ih _ _ _ _ _ _ _ _ s' hc') (s'.effect so hf hi)

theorem draw_sound {ops : Array Oper} {steps : List (Nat × List Nat)} (hok : okDraw ops steps = true) {id : Nat} {Qx : Exit → Act → World → Prop} {Q : Nat → List AV → AH → Prop} {kn : List AV → Prog} {env : List AV} {a : Act}
    (hm : P.follows .mixedOrders = true) (s : Sim B w0 m h w) (r : VRels m env a.tmps.toList) (hd : a.defers = []) (g : (trSteps P ops steps env kn).awp P h Q)
    (hQ : ∀ env' a' m' h' w', Grow h.n m h'.n m' → Sim B w0 m' h' w' → VRels m' env' a'.tmps.toList → a'.defers = [] → Kept (wrOps ops.toList) a a' → (kn env').awp P h' Q → Qx .normal a' w') :
    (Code.region id ops true).wp P Qx a w := by
  simp only [okDraw, Bool.and_eq_true, beq_iff_eq, List.all_eq_true, List.mem_range, List.contains_eq_mem, decide_eq_true_eq] at hok
  obtain ⟨⟨_, h2⟩, h3⟩ := hok
  refine wp_region_any hm (DI.any (n0 := h.n) (m0 := m) (a0 := a) (kn := kn) (Q := Q) steps h3 (fun i hi => h2 i hi) hQ ops.size _ [] steps env h m a _ ?_ ?_)
  · have hf : ∀ i, (Array.replicate ops.size false).getD i false = false := fun i => by
      rw [Array.getD_eq_getD_getElem?, Array.getElem?_replicate]; split <;> rfl
    refine ⟨h3, fun i hi => .inr (h2 i hi), ?_, ?_, ?_, ?_, ?_, ?_, by simp, s.drew _, Grow.refl _ _, hd, Kept.refl _ _, by simpa using r.length, ?_, ?_, ?_, g⟩
    · intro x hx; cases hx
    · intro x y _ _ hx; cases hx
    · intro x _ hx; cases hx
    · intro i hi; rw [hf i] at hi; cases hi
    · intro i _ hi; cases hi
    · intro k _ _ hk; simp only [hf k] at hk; cases hk
    · intro t _ x hx
      obtain ⟨v, h1, h2⟩ := r.get t x hx
      exact ⟨v, by simpa using h1, h2⟩
    · intro x _ hx; cases hx.1
    · intro x y _ _ _ hx; cases hx.1
  · exact Nat.le_trans List.countP_le_length (by simp)

end Go.Ab
