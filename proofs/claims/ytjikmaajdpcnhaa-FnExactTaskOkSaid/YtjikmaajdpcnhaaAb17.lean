/- Regions that draw their order: every order does the same. -/
import Derived.Test.YtjikmaajdpcnhaaAb16
set_option linter.unusedSimpArgs false
set_option linter.unusedVariables false
namespace Go.Ab
open Go.RowKit

variable {B : Nat} {w0 w w' : World} {m m' : BM} {h : AH} {P : Program}

theorem countP_lt {p q : Nat → Bool} : ∀ {l : List Nat} {i : Nat}, i ∈ l → (∀ j, q j = true → p j = true) → p i = true → q i = false → l.countP q < l.countP p
  | [], i, hi, _, _, _ => by cases hi
  | x :: xs, i, hi, hq, hp, hn => by
    have le : ∀ l : List Nat, l.countP q ≤ l.countP p := fun l => List.countP_mono_left fun j _ hj => hq j hj
    rw [List.countP_cons, List.countP_cons]
    rcases List.mem_cons.1 hi with e | e
    · subst e
      have := le xs
      simp [hp, hn]; omega
    · have ih := countP_lt e hq hp hn
      by_cases hx : q x = true
      · simp [hx, hq x hx]; exact ih
      · simp only [hx, Bool.false_eq_true, if_false]; omega

theorem blkOf_news {ao : AOp} {v : AV} {b : Nat} (hb : blkOf ao v = some b) : ao.news = true := by
  cases ao <;> simp [blkOf] at hb <;> rfl
theorem still_go {ao : AOp} (hn : ao.news = false) {v : AV} (s : ao.still P v h) : ao.go P h fun v' h' => v' = v ∧ h' = h := by
  cases ao <;> simp only [AOp.news, Bool.true_eq_false] at hn <;> exact s

def Closed (ops : Array Oper) (L : Nat → Prop) : Prop := ∀ k o, ops[k]? = some o → L k → ∀ j ∈ predsOf o, L j

theorem ancsGo_spec {ops : Array Oper} {L : Nat → Prop} (hc : Closed ops L) : ∀ (os : List Oper) (acc : List (List Nat)) (dn : List Oper), ops.toList = dn ++ os → acc.length = dn.length →
    (∀ k x, x ∈ acc.getD k [] → (∀ o, ops[k]? = some o → ∀ j ∈ predsOf o, L j) → L x) →
    ∀ k x, x ∈ (ancsGo os acc).getD k [] → (∀ o, ops[k]? = some o → ∀ j ∈ predsOf o, L j) → L x
  | [], acc, dn, _, _, ih => ih
  | o :: os, acc, dn, he, hl, ih => by
    refine ancsGo_spec hc os _ (dn ++ [o]) (by simp [he]) (by simp [hl]) ?_
    intro k x hx hp
    have hk : ops[dn.length]? = some o := by
      rw [← Array.getElem?_toList, he]; simp
    by_cases h1 : k < acc.length
    · refine ih k x ?_ hp
      simpa [List.getD_eq_getElem?_getD, List.getElem?_append_left h1] using hx
    · by_cases h2 : k = acc.length
      · subst h2
        simp only [List.getD_eq_getElem?_getD, List.getElem?_append_right (Nat.le_refl _), Nat.sub_self, List.getElem?_cons_zero, Option.getD_some, List.mem_eraseDups, List.mem_append, List.mem_flatMap] at hx
        have hp' := hp o (by rw [hl]; exact hk)
        rcases hx with hx | ⟨j, hj, hx⟩
        · exact hp' x hx
        · exact ih j x (by simpa [List.getD_eq_getElem?_getD] using hx) fun o' ho' j' hj' => hc j o' ho' (hp' j hj) j' hj'
      · have : (acc ++ [(predsOf o ++ (predsOf o).flatMap fun j => acc.getD j []).eraseDups])[k]? = none := by
          rw [List.getElem?_eq_none]; simp; omega
        rw [List.getD_eq_getElem?_getD, this] at hx
        simp at hx

theorem ancs_spec {ops : Array Oper} {L : Nat → Prop} (hc : Closed ops L) {i x : Nat} (hx : x ∈ (ancs ops.toList).getD i []) (hp : ∀ o, ops[i]? = some o → ∀ j ∈ predsOf o, L j) : L x :=
  ancsGo_spec hc ops.toList [] [] (by simp) rfl (by intro k x hx; simp at hx) i x hx hp

structure StepOk (ops : Array Oper) (A : List (List Nat)) (pre : List Nat) (i : Nat) (cs rest : List Nat) (o : Oper) : Prop where
  op : ops[i]? = some o
  new : i ∉ pre
  preds : ∀ j ∈ predsOf o, j ∈ pre
  old : ∀ x ∈ pre, ∃ ox, ops[x]? = some ox ∧ (dstIn ox (o.looksAt ops) = true → x ∈ A.getD i []) ∧
    (floats o = true → dstIn o (ox.looksAt ops) = false ∧ (ox.dst = none ∨ ox.dst ≠ o.dst)) ∧
    (floats o = false → x ∈ A.getD i [] ∨ (floats ox = true ∧ dstIn o (ox.looksAt ops) = false ∧ (ox.dst = none ∨ ox.dst ≠ o.dst) ∧ (hangs ox = true → x ∈ cs)))
  fl : floats o = true → cs = [] ∧ (∃ d, o.dst = some d) ∧ dstIn o (o.looksAt ops) = false
  ef : floats o = false → ∀ y ∈ rest, i ∈ A.getD y []

theorem stepOk_spec {ops : Array Oper} {A : List (List Nat)} {pre : List Nat} {i : Nat} {cs rest : List Nat} (hs : stepOk ops A pre i cs rest = true) : ∃ o, StepOk ops A pre i cs rest o := by
  unfold stepOk at hs
  split at hs
  · cases hs
  · rename_i o ho
    simp only [Bool.and_eq_true, Bool.not_eq_true', List.all_eq_true, List.contains_eq_mem, decide_eq_true_eq, decide_eq_false_iff_not] at hs
    obtain ⟨⟨⟨h1, h2⟩, h3⟩, h4⟩ := hs
    refine ⟨o, ho, h1, h2, ?_, ?_, ?_⟩
    · intro x hx
      have := h3 x hx
      split at this
      · cases this
      · rename_i ox hox
        simp only [Bool.and_eq_true, Bool.or_eq_true, Bool.not_eq_true', decide_eq_true_eq] at this
        obtain ⟨t1, t2⟩ := this
        refine ⟨ox, hox, fun hd => ?_, fun hf => ?_, fun hf => ?_⟩
        · rcases t1 with t1 | t1
          · rw [hd] at t1; cases t1
          · exact t1
        · simp only [hf, if_true, Bool.and_eq_true, Bool.not_eq_true', Bool.or_eq_true, Option.isNone_iff_eq_none, bne_iff_ne] at t2
          exact t2
        · simp only [hf, Bool.false_eq_true, if_false, Bool.or_eq_true, Bool.and_eq_true, Bool.not_eq_true', Option.isNone_iff_eq_none, bne_iff_ne, decide_eq_true_eq] at t2
          rcases t2 with t2 | ⟨⟨⟨t2, t3⟩, t4⟩, t5⟩
          · exact .inl t2
          · refine .inr ⟨t2, t3, t4, fun hh => ?_⟩
            rcases t5 with t5 | t5
            · rw [hh] at t5; cases t5
            · exact t5
    · intro hf
      simp only [hf, if_true, Bool.and_eq_true, beq_iff_eq, List.length_eq_zero_iff, Bool.not_eq_true'] at h4
      exact ⟨h4.1.1, Option.isSome_iff_exists.1 h4.1.2, h4.2⟩
    · intro hf
      simp only [hf, Bool.false_eq_true, if_false, List.all_eq_true, decide_eq_true_eq] at h4
      exact h4

theorem stepsOk_cons {ops : Array Oper} {A : List (List Nat)} {pre : List Nat} {i : Nat} {cs : List Nat} {rest : List (Nat × List Nat)} (hs : stepsOk ops A pre ((i, cs) :: rest) = true) :
    (∃ o, StepOk ops A pre i cs (rest.map (·.1)) o) ∧ stepsOk ops A (pre ++ [i]) rest = true := by
  simp only [stepsOk, Bool.and_eq_true] at hs
  exact ⟨stepOk_spec hs.1, hs.2⟩

/-- What is not listed yet has a first. -/
theorem steps_first {ops : Array Oper} {A : List (List Nat)} {L : Nat → Prop} : ∀ (rest : List (Nat × List Nat)) (pre : List Nat), stepsOk ops A pre rest = true → (∀ x ∈ pre, L x) → (∃ i ∈ rest.map (·.1), ¬ L i) →
    ∃ i o, ops[i]? = some o ∧ ¬ L i ∧ ∀ j ∈ predsOf o, L j
  | [], pre, _, _, ⟨i, hi, _⟩ => by simp at hi
  | (k, cs) :: rest, pre, hs, hp, ⟨i, hi, hn⟩ => by
    obtain ⟨⟨o, so⟩, hs'⟩ := stepsOk_cons hs
    by_cases hk : L k
    · refine steps_first rest (pre ++ [k]) hs' ?_ ?_
      · intro x hx
        rcases List.mem_append.1 hx with e | e
        · exact hp x e
        · simp at e; rw [e]; exact hk
      · rcases List.mem_cons.1 hi with e | e
        · exact absurd (e ▸ hk) hn
        · exact ⟨i, e, hn⟩
    · exact ⟨k, o, so.op, hk, fun j hj => hp j (so.preds j hj)⟩

def want? (ops : Array Oper) (env : List AV) (o : Oper) : Option Bool :=
  match o.guard with
  | none => some true
  | some (j, wt) => match gvE ops env j with
    | .bool b => some (b == wt)
    | .tup [] => some false
    | _ => none

/-- The block that what runs early has made. -/
def PB (P : Program) (ops : Array Oper) (env : List AV) (o : Oper) (b : Nat) : Prop :=
  want? ops env o = some true ∧ ∃ d, o.dst = some d ∧ blkOf (trOp P (evE env) o.op) (env.getD d .un) = some b
def Pend (P : Program) (ops : Array Oper) (env : List AV) (h : AH) (m : BM) (n0 : Nat) (o : Oper) : Prop :=
  floats o = true ∧ (∃ d, o.dst = some d ∧ d < env.length ∧
    ((want? ops env o = some true ∧ (trOp P (evE env) o.op).still P (env.getD d .un) h) ∨ (want? ops env o = some false ∧ env.getD d .un = .tup []))) ∧
  ∀ b, PB P ops env o b → b < h.n ∧ n0 ≤ b ∧ m b = none

theorem looks_op {ops : Array Oper} {o : Oper} {t : Nat} (ht : .tmp t ∈ o.op.operands) : t ∈ o.looksAt ops :=
  List.mem_append_left _ (List.mem_filterMap.2 ⟨.tmp t, by simpa using ht, rfl⟩)
theorem looks_guard {ops : Array Oper} {o oj : Oper} {j t : Nat} {wt : Bool} (hg : o.guard = some (j, wt)) (hj : ops[j]? = some oj) (hd : oj.dst = some t) : t ∈ o.looksAt ops :=
  List.mem_append_right _ (by simp [hg, hj, hd])

theorem evE_congr {env env' : List AV} {x : Operand} (hh : ∀ t, x = .tmp t → env'[t]? = env[t]?) : evE env' x = evE env x := by
  cases x with
  | tmp t => simp only [evE, List.getD_eq_getElem?_getD, hh t rfl]
  | _ => rfl
theorem trOp_look {ops : Array Oper} {env env' : List AV} {o : Oper} (hh : ∀ t, t ∈ o.looksAt ops → env'[t]? = env[t]?) : trOp P (evE env') o.op = trOp P (evE env) o.op :=
  trOp_congr o.op fun x hx => evE_congr fun t e => hh t (looks_op (e ▸ hx))
theorem want_look {ops : Array Oper} {env env' : List AV} {o : Oper} (hh : ∀ t, t ∈ o.looksAt ops → env'[t]? = env[t]?) : want? ops env' o = want? ops env o := by
  unfold want?
  cases hg : o.guard with
  | none => rfl
  | some jw =>
    obtain ⟨j, wt⟩ := jw
    have : gvE ops env' j = gvE ops env j := by
      unfold gvE
      cases ho : ops[j]? with
      | none => rfl
      | some oj =>
        cases hd : oj.dst with
        | none => simp only [hd]
        | some t => simp only [hd, List.getD_eq_getElem?_getD, hh t (looks_guard hg ho hd)]
    simp only [this]
theorem pb_look {ops : Array Oper} {env env' : List AV} {o : Oper} {b : Nat} (hh : ∀ t, t ∈ o.looksAt ops → env'[t]? = env[t]?) (hd : ∀ d, o.dst = some d → env'[d]? = env[d]?) (p : PB P ops env' o b) : PB P ops env o b := by
  obtain ⟨h1, d, h2, h3⟩ := p
  refine ⟨(want_look hh) ▸ h1, d, h2, ?_⟩
  rw [trOp_look hh, List.getD_eq_getElem?_getD, hd d h2, ← List.getD_eq_getElem?_getD] at h3
  exact h3

theorem set_ne {env : List AV} {dst : Option Tmp} {t : Nat} (v : AV) (hne : dst ≠ some t) : (setE env dst v)[t]? = env[t]? := by
  cases dst with
  | none => rfl
  | some d => simp only [setE]; rw [List.getElem?_set_ne (fun e => hne (by rw [e]))]
theorem setE_length (env : List AV) (dst : Option Tmp) (v : AV) : (setE env dst v).length = env.length := by cases dst <;> simp [setE]

theorem not_dstIn {o : Oper} {l : List Nat} (hd : dstIn o l = false) {t : Nat} (ht : t ∈ l) : o.dst ≠ some t := by
  intro e
  simp [dstIn, e, ht] at hd
theorem dstIn_of {o : Oper} {l : List Nat} {t : Nat} (ht : t ∈ l) (hd : o.dst = some t) : dstIn o l = true := by simp [dstIn, hd, ht]

/-- What runs early. -/
theorem trOper_adv {ops : Array Oper} {o : Oper} (hf : floats o = true) {env : List AV} {k : List AV → Prog} {Q : Nat → List AV → AH → Prop} (g : (trOper P ops o env k).awp P h Q) :
    ∃ v h', (k (setE env o.dst v)).awp P h' Q ∧
      ((want? ops env o = some true ∧ (trOp P (evE env) o.op).still P v h' ∧ (((∀ b, blkOf (trOp P (evE env) o.op) v ≠ some b) ∧ h' = h) ∨ (blkOf (trOp P (evE env) o.op) v = some h.n ∧ ∃ k : Blk, k.st = 0 ∧ h' = h.push k))) ∨
       (want? ops env o = some false ∧ v = .tup [] ∧ h' = h)) := by
  have run : want? ops env o = some true → (trOp P (evE env) o.op).go P h (fun v h' => (k (setE env o.dst v)).awp P h' Q) → ∃ v h', (k (setE env o.dst v)).awp P h' Q ∧
      ((want? ops env o = some true ∧ (trOp P (evE env) o.op).still P v h' ∧ (((∀ b, blkOf (trOp P (evE env) o.op) v ≠ some b) ∧ h' = h) ∨ (blkOf (trOp P (evE env) o.op) v = some h.n ∧ ∃ k : Blk, k.st = 0 ∧ h' = h.push k))) ∨
       (want? ops env o = some false ∧ v = .tup [] ∧ h' = h)) := by
    intro hw g
    obtain ⟨v, h', h1, h2, h3⟩ := go_still (fl_of hf) g
    refine ⟨v, h', h1, .inl ⟨hw, h2, ?_⟩⟩
    rcases h3 with ⟨hn, e⟩ | h3
    · exact .inl ⟨fun b hb => (by rw [blkOf_news hb] at hn; cases hn), e⟩
    · exact .inr h3
  unfold trOper at g
  cases hg : o.guard with
  | none =>
    have hw : want? ops env o = some true := by simp [want?, hg]
    rw [hg] at g
    simp only at g
    split at g
    · rename_i x hop
      exact run hw (by rw [hop]; simpa [trOp, AOp.go] using g)
    · rename_i x hop
      exact run hw (by rw [hop]; simpa [trOp, AOp.go] using g)
    · exact run hw g
  | some jw =>
    obtain ⟨j, wt⟩ := jw
    rw [hg] at g
    simp only at g
    generalize hc : gvE ops env j = c at g
    cases c with
    | bool b =>
      simp only [Prog.awp] at g
      split at g
      · rename_i e
        exact run (by simp [want?, hg, hc, e]) g
      · rename_i e
        exact ⟨_, h, g, .inr ⟨by simp [want?, hg, hc, e], rfl, rfl⟩⟩
    | tup vs =>
      cases vs with
      | nil => exact ⟨_, h, g, .inr ⟨by simp [want?, hg, hc], rfl, rfl⟩⟩
      | cons x xs => exact g.elim
    | _ => exact g.elim

theorem trChk_spec {ops : Array Oper} {env : List AV} {Q : Nat → List AV → AH → Prop} {p : Prog} : ∀ {cs : List Nat}, (trChk P ops env cs p).awp P h Q →
    p.awp P h Q ∧ ∀ i ∈ cs, ∃ o d, ops[i]? = some o ∧ o.dst = some d ∧ (want? ops env o = some true → (trOp P (evE env) o.op).still P (env.getD d .un) h)
  | [], g => ⟨g, by intro i hi; cases hi⟩
  | i :: cs, g => by
    unfold trChk at g
    split at g
    · rename_i o ho
      split at g
      · rename_i d hd
        split at g
        · rename_i hg
          simp only [Prog.awp] at g
          obtain ⟨g1, g2⟩ := trChk_spec g.2
          refine ⟨g1, fun x hx => ?_⟩
          rcases List.mem_cons.1 hx with e | e
          · subst e; exact ⟨o, d, ho, hd, fun _ => g.1⟩
          · exact g2 x e
        · rename_i j wt hg
          simp only [Prog.awp] at g
          obtain ⟨g1, g2⟩ := trChk_spec g.2
          refine ⟨g1, fun x hx => ?_⟩
          rcases List.mem_cons.1 hx with e | e
          · subst e
            refine ⟨o, d, ho, hd, fun hw => ?_⟩
            have g0 := g.1
            unfold want? at hw
            rw [hg] at hw
            simp only at hw
            split at g0
            · rename_i b hb
              rw [hb] at hw
              simp only [Option.some.injEq, beq_iff_eq] at hw
              rw [if_pos hw] at g0; exact g0
            · rename_i hb
              rw [hb] at hw; simp at hw
            · exact g0.elim
          · exact g2 x e
      · exact g.elim
    · exact g.elim

end Go.Ab
