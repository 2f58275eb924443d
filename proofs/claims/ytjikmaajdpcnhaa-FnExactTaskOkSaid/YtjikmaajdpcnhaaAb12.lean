/- The shallow program of a function tells what the function does. -/
import Derived.Test.YtjikmaajdpcnhaaAb11
import Derived.Orders
set_option linter.unusedSimpArgs false
set_option linter.unusedVariables false
namespace Go.Ab
open Go.RowKit

variable {B : Nat} {w0 w w' : World} {m m' : BM} {h : AH} {P : Program}

def Kept (W : List Nat) (a0 a : Act) : Prop := a.tmps.size = a0.tmps.size ∧ ∀ t, t ∉ W → a.tmps[t]? = a0.tmps[t]?
theorem Kept.refl (W : List Nat) (a : Act) : Kept W a a := ⟨rfl, fun _ _ => rfl⟩
theorem Kept.trans {W W' : List Nat} {a b c : Act} (h : Kept W a b) (k : Kept W' b c) : Kept (W ++ W') a c :=
  ⟨k.1.trans h.1, fun t ht => by simp at ht; rw [k.2 t ht.2, h.2 t ht.1]⟩
theorem Kept.mono {W W' : List Nat} {a b : Act} (h : Kept W a b) (hw : ∀ t, t ∈ W → t ∈ W') : Kept W' a b := ⟨h.1, fun t ht => h.2 t fun g => ht (hw t g)⟩
theorem Kept.put {W : List Nat} (a : Act) (dst : Option Tmp) (v : Value) (hd : ∀ d, dst = some d → d ∈ W) : Kept W a (a.put dst v) := by
  cases dst with
  | none => exact Kept.refl _ _
  | some d =>
    refine ⟨by simp [Act.put], fun t ht => ?_⟩
    have : d ≠ t := fun e => ht (e ▸ hd d rfl)
    simp [Act.put, Array.getElem?_setIfInBounds_ne this]

theorem vrels_set {env : List AV} {l : List Value} (r : VRels m env l) (d : Nat) {av : AV} {v : Value} (hv : VRel m av v) : VRels m (env.set d av) (l.set d v) := by
  refine VRels.of_get (by simp [r.length]) fun i x y hx hy => ?_
  rw [List.getElem?_set] at hx hy
  by_cases e : d = i
  · subst e
    rw [if_pos rfl] at hx hy
    split at hx
    · split at hy
      · cases hx; cases hy; exact hv
      · cases hy
    · cases hx
  · rw [if_neg e] at hx hy
    obtain ⟨z, h1, h2⟩ := r.get i x hx
    rw [h1] at hy; cases hy; exact h2

theorem vrels_put {env : List AV} {a : Act} (r : VRels m env a.tmps.toList) (dst : Option Tmp) {av : AV} {v : Value} (hv : VRel m av v) : VRels m (setE env dst av) (a.put dst v).tmps.toList := by
  cases dst with
  | none => exact r
  | some d => simpa [setE, Act.put] using vrels_set r d hv

theorem vrel_getD {env : List AV} {l : List Value} (r : VRels m env l) (t : Nat) (dv : Value) : VRel m (env.getD t .un) (l.getD t dv) := by
  rw [List.getD_eq_getElem?_getD]
  cases hx : env[t]? with
  | none => exact vrel_un _
  | some x =>
    obtain ⟨v, h1, h2⟩ := r.get t x hx
    simpa [List.getD_eq_getElem?_getD, h1] using h2

theorem evE_rel {env : List AV} {a : Act} (r : VRels m env a.tmps.toList) (x : Operand) : VRel m (evE env x) (a.eval x) := by
  cases x with
  | tmp t => simpa [evE, Act.eval] using vrel_getD r t undef
  | const v => exact vrel_ofVal v
  | global g => exact vrel_un _
  | func f => simp only [evE, Act.eval, VRel]; exact ⟨[], VRels.nil, rfl⟩

theorem vrel_tup0 : VRel m (.tup []) undef := by simp only [VRel]; exact ⟨[], VRels.nil, rfl⟩

theorem gv_yields {ops : Array Oper} {env : List AV} {a : Act} {j : Nat} (r : ∀ t o, ops[j]? = some o → o.dst = some t → (∀ x, env[t]? = some x → ∃ v, a.tmps[t]? = some v ∧ VRel m x v) ∧ (env[t]? = none → a.tmps[t]? = none)) :
    (∀ b, gvE ops env j = .bool b → yielded ops a.tmps j = some b) ∧ (gvE ops env j = .tup [] → yielded ops a.tmps j = none) := by
  unfold gvE yielded
  cases ho : ops[j]? with
  | none => simp
  | some oj =>
    simp only [Option.bind_some]
    cases hd : oj.dst with
    | none => simp
    | some t =>
      simp only [Option.bind_some]
      obtain ⟨r1, r2⟩ := r t oj ho hd
      cases hx : env[t]? with
      | none => simp [List.getD_eq_getElem?_getD, hx, r2 hx]
      | some x =>
        obtain ⟨v, h1, h2⟩ := r1 x hx
        simp only [List.getD_eq_getElem?_getD, hx, Option.getD_some, h1]
        refine ⟨fun b hb => ?_, fun hb => ?_⟩
        · subst hb; simp only [VRel] at h2; subst h2; rfl
        · subst hb; simp only [VRel] at h2; obtain ⟨l, hl, rfl⟩ := h2; rfl

/-- One operation of a region: 'next' holds behind it. -/
theorem oper_run {ops : Array Oper} {i : Nat} {o : Oper} (hi : ops[i]? = some o) {env : List AV} {a : Act} {ρ : Operand → AV} (hρ : ∀ x, VRel m (ρ x) (a.eval x)) (hop : trOp P ρ o.op = trOp P (evE env) o.op)
    (hgd : ∀ j want, o.guard = some (j, want) → (∀ b, gvE ops env j = .bool b → yielded ops a.tmps j = some b) ∧ (gvE ops env j = .tup [] → yielded ops a.tmps j = none))
    (s : Sim B w0 m h w) {k : List AV → Prog} {Q : Nat → List AV → AH → Prop}
    (g : (trOper P ops o env k).awp P h Q) {next : Act → World → Prop} {Qx : Exit → Act → World → Prop}
    (hnext : ∀ v av m' h' w', Grow h.n m h'.n m' → Sim B w0 m' h' w' → VRel m' av v → (k (setE env o.dst av)).awp P h' Q → next (a.put o.dst v) w') :
    wpOp P ops Qx i next a w := by
  have run : ∀ {K : AV → AH → Prop}, (trOp P (evE env) o.op).go P h K → (∀ v h', K v h' → (k (setE env o.dst v)).awp P h' Q) → o.wp P a w next Qx := fun g hk =>
    op_sound hρ s (by rw [hop]; exact g) fun v av m' h' w' h1 h2 h3 h4 => hnext v av m' h' w' h1 h2 h3 (hk _ _ h4)
  unfold wpOp
  rw [hi]
  simp only
  unfold trOper at g
  cases hg : o.guard with
  | none =>
    rw [hg] at g
    simp only at g
    have hw : Region.wanted o (yielded ops a.tmps) = true := by simp [Region.wanted, hg]
    rw [if_pos hw]
    left
    split at g
    · rename_i x hop
      exact run (K := fun v h' => v = evE env x ∧ h' = h) (by rw [hop]; simp [trOp, AOp.go]) (by rintro v h' ⟨rfl, rfl⟩; exact g)
    · rename_i x hop
      exact run (K := fun v h' => v = evE env x ∧ h' = h) (by rw [hop]; simp [trOp, AOp.go]) (by rintro v h' ⟨rfl, rfl⟩; exact g)
    · exact run g fun v h' hk => hk
  | some jw =>
    obtain ⟨j, want⟩ := jw
    rw [hg] at g
    simp only at g
    obtain ⟨hyb, hyt⟩ := hgd j want hg
    have hwb : ∀ b, gvE ops env j = .bool b → Region.wanted o (yielded ops a.tmps) = (b == want) := fun b hb => by
      unfold Region.wanted; rw [hg]; simp only; rw [hyb b hb]; cases b <;> cases want <;> rfl
    have hwt : gvE ops env j = .tup [] → Region.wanted o (yielded ops a.tmps) = false := fun hb => by
      unfold Region.wanted; rw [hg]; simp only; rw [hyt hb]; cases want <;> rfl
    have skip : Region.wanted o (yielded ops a.tmps) = false → (k (setE env o.dst (.tup []))).awp P h Q → (if Region.wanted o (yielded ops a.tmps) = true then o.wp P a w next Qx ∨ o.asks P a w ∧ LetsOut Qx else next (a.put o.dst undef) w) := by
      intro hw g
      rw [hw, if_neg (by simp)]
      exact hnext undef (.tup []) m h w (Grow.refl _ _) s vrel_tup0 g
    cases hc : gvE ops env j with
    | bool b =>
      rw [hc] at g
      simp only [Prog.awp] at g
      split at g
      · rename_i e
        have hw := hwb b hc
        rw [e, beq_self_eq_true] at hw
        rw [if_pos hw]
        exact .inl (run g fun v h' hk => hk)
      · rename_i e
        refine skip ?_ g
        rw [hwb b hc]
        simpa using e
    | tup vs =>
      cases vs with
      | nil => rw [hc] at g; exact skip (hwt hc) g
      | cons x xs => rw [hc] at g; exact g.elim
    | _ => rw [hc] at g; exact g.elim

theorem gv_all {ops : Array Oper} {env : List AV} {a : Act} (r : VRels m env a.tmps.toList) (j : Nat) :
    (∀ b, gvE ops env j = .bool b → yielded ops a.tmps j = some b) ∧ (gvE ops env j = .tup [] → yielded ops a.tmps j = none) :=
  gv_yields fun t o _ _ => ⟨fun x hx => by simpa using r.get t x hx, fun hx => by
    have := List.getElem?_eq_none_iff.1 hx
    rw [r.length] at this
    exact Array.getElem?_eq_none (by simpa using this)⟩

theorem oper_sound {ops : Array Oper} {i : Nat} {o : Oper} (hi : ops[i]? = some o) {env : List AV} {a : Act} (r : VRels m env a.tmps.toList) (s : Sim B w0 m h w) {k : List AV → Prog} {Q : Nat → List AV → AH → Prop}
    (g : (trOper P ops o env k).awp P h Q) {next : Act → World → Prop} {Qx : Exit → Act → World → Prop}
    (hnext : ∀ v av m' h' w', Grow h.n m h'.n m' → Sim B w0 m' h' w' → VRels m' (setE env o.dst av) (a.put o.dst v).tmps.toList → (k (setE env o.dst av)).awp P h' Q → next (a.put o.dst v) w') :
    wpOp P ops Qx i next a w :=
  oper_run hi (evE_rel r) rfl (fun j _ _ => gv_all r j) s g fun v av m' h' w' h1 h2 h3 h4 => hnext v av m' h' w' h1 h2 (vrels_put (VRels.mono (h1.le s) _ _ r) _ h3) h4

theorem put_defers (a : Act) (dst : Option Tmp) (v : Value) : (a.put dst v).defers = a.defers := by cases dst <;> rfl

theorem mem_wrOps : ∀ {l : List Oper} {o : Oper} {d : Nat}, o ∈ l → o.dst = some d → d ∈ wrOps l
  | [], o, d, h, _ => by cases h
  | x :: l, o, d, h, hd => by
    rcases List.mem_cons.1 h with rfl | h
    · simp [wrOps, hd]
    · have := mem_wrOps h hd
      unfold wrOps; split
      · exact List.mem_cons_of_mem _ this
      · exact this

/-- A region in the order of its text. -/
theorem ops_sound {ops : Array Oper} {Qx : Exit → Act → World → Prop} {Q : Nat → List AV → AH → Prop} {kn : List AV → Prog} {n0 : Nat} {m0 : BM} {a0 : Act}
    (hQ : ∀ env' a' m' h' w', Grow n0 m0 h'.n m' → Sim B w0 m' h' w' → VRels m' env' a'.tmps.toList → a'.defers = [] → Kept (wrOps ops.toList) a0 a' → (kn env').awp P h' Q → Qx .normal a' w') :
    ∀ (l : List Nat) (env : List AV) (a : Act) (m : BM) (h : AH) (w : World), Grow n0 m0 h.n m → Sim B w0 m h w → VRels m env a.tmps.toList → a.defers = [] → Kept (wrOps ops.toList) a0 a → (trOps P ops l env kn).awp P h Q → wpOps P ops Qx l a w
  | [], env, a, m, h, w, hg, s, r, hd, hk, g => hQ env a m h w hg s r hd hk g
  | i :: rest, env, a, m, h, w, hg, s, r, hd, hk, g => by
    rw [wpOps_cons]
    simp only [trOps] at g
    split at g
    · rename_i o ho
      refine oper_sound ho r s g fun v av m' h' w' g1 g2 g3 g4 => ?_
      have hmem : o ∈ ops.toList := List.mem_of_getElem? (by rw [Array.getElem?_toList]; exact ho)
      exact ops_sound hQ rest _ _ m' h' w' (hg.trans g1) g2 g3 (by rw [put_defers]; exact hd)
        ⟨by rw [← hk.1]; cases o.dst <;> simp [Act.put], fun t ht => by rw [(Kept.put (W := wrOps ops.toList) a o.dst v fun d hd => mem_wrOps hmem hd).2 t ht, hk.2 t ht]⟩ g4
    · exact g.elim

theorem forget_length : ∀ (is : List Nat) (env : List AV), (forget env is).length = env.length
  | [], _ => rfl
  | i :: is, env => by simp [forget, forget_length is]
theorem forget_get : ∀ (is : List Nat) (env : List AV) (t : Nat) (x : AV), (forget env is)[t]? = some x → x = .un ∨ (t ∉ is ∧ env[t]? = some x)
  | [], env, t, x, hx => .inr ⟨by simp, hx⟩
  | i :: is, env, t, x, hx => by
    rcases forget_get is (env.set i .un) t x hx with h | ⟨h1, h2⟩
    · exact .inl h
    · rw [List.getElem?_set] at h2
      by_cases e : i = t
      · rw [if_pos e] at h2
        split at h2
        · cases h2; exact .inl rfl
        · cases h2
      · rw [if_neg e] at h2
        exact .inr ⟨by simp; exact ⟨fun g => e g.symm, h1⟩, h2⟩

theorem g_pack (env : List AV) (ks : List Nat) (i : Nat) (k : Nat) (hk : ks[i]? = some k) : g (pack env ks) i = env.getD k .un := by
  simp [g, pack, List.getD_eq_getElem?_getD, hk]

theorem unpackI_rel {env' : List AV} {l : List Value} (r' : VRels m env' l) (all : List Nat) : ∀ (ks : List Nat) (i : Nat) (e : List AV), (∀ j k, ks[j]? = some k → all[i + j]? = some k) → VRels m e l → VRels m (unpackI (pack env' all) e ks i) l
  | [], i, e, _, r => r
  | k :: ks, i, e, ha, r => by
    simp only [unpackI]
    refine unpackI_rel r' all ks (i + 1) _ (fun j k' hj => by rw [show i + 1 + j = i + (j + 1) by omega]; exact ha (j + 1) k' (by simpa using hj)) ?_
    rw [g_pack env' all i k (by simpa using ha 0 k rfl)]
    refine VRels.of_get (by simp [r.length]) fun i x y hx hy => ?_
    rw [List.getElem?_set] at hx
    by_cases e1 : k = i
    · rw [if_pos e1] at hx
      subst e1
      split at hx
      · simp only [Option.some.injEq] at hx; subst hx
        have := vrel_getD r' k undef
        rw [List.getD_eq_getElem?_getD (l := l), hy] at this
        exact this
      · cases hx
    · rw [if_neg e1] at hx
      obtain ⟨z, h1, h2⟩ := r.get i x hx
      rw [h1] at hy; cases hy; exact h2
theorem unpack_rel {env' : List AV} {l : List Value} (r' : VRels m env' l) (ks : List Nat) (e : List AV) (r : VRels m e l) : VRels m (unpack e ks (pack env' ks)) l :=
  unpackI_rel r' ks ks 0 e (fun j k hj => by simpa using hj) r

theorem selX_awp {Q : Nat → List AV → AH → Prop} (id : Nat) (k : Nat → Prog) : ∀ (l : List Nat), (selX (id + 2) k l).awp P h Q → (k id).awp P h Q
  | [], g => g.elim
  | i :: is, g => by
    simp only [selX, tsel] at g
    split at g
    · rename_i e
      have : id = i := by omega
      subst this; exact g
    · exact selX_awp id k is g
theorem afterX_awp {Q : Nat → List AV → AH → Prop} {id : Nat} {vs : List AV} {c : Code} {k : Nat → Prog} (g : (afterX (id + 2) vs c k).awp P h Q) : (k id).awp P h Q := by
  simp only [afterX, tsel] at g
  rw [if_neg (by omega)] at g
  exact selX_awp id k _ g

theorem again_rel {env env' : List AV} {a0 a : Act} {W : List Nat} (r0 : VRels m env a0.tmps.toList) (hle : m.le m') (hk : Kept W a0 a) (r' : VRels m' env' a.tmps.toList) (ks : List Nat) :
    VRels m' (unpack (forget env W) ks (pack env' ks)) a.tmps.toList := by
  refine unpack_rel r' ks _ (VRels.of_get (by rw [forget_length, r0.length]; simpa using hk.1.symm) fun i x y hx hy => ?_)
  rcases forget_get _ _ _ _ hx with rfl | ⟨h1, h2⟩
  · exact vrel_un _
  · obtain ⟨z, g1, g2⟩ := r0.get i x h2
    have := hk.2 i h1
    rw [Array.getElem?_toList] at g1 hy
    rw [this, g1] at hy
    cases hy
    exact VRel.mono hle _ _ g2

end Go.Ab
