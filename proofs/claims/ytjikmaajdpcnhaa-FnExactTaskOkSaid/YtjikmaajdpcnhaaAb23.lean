/- Functions that are alike: copies of slices, equality, sizes, searches. -/
import Derived.Test.YtjikmaajdpcnhaaAb22
set_option linter.unusedSimpArgs false
set_option linter.unusedVariables false
namespace Go.Ab
open Go.RowKit

def Own (n : Nat) (h : AH) (F : List Nat) : Prop := F.Nodup ∧ ∀ b ∈ F, n ≤ b ∧ (h.get b).st = 0
theorem Own.nil {n : Nat} {h : AH} : Own n h [] := ⟨List.nodup_nil, by simp⟩
theorem Own.mono {n n' : Nat} {h h' : AH} {F : List Nat} (o : Own n h F) (hn : n' ≤ n) (hk : ∀ b ∈ F, h'.get b = h.get b) : Own n' h' F :=
  ⟨o.1, fun b hb => ⟨Nat.le_trans hn (o.2 b hb).1, by rw [hk b hb]; exact (o.2 b hb).2⟩⟩

section
variable {α : Type} [Cel α] {P : Program} {h h' : AH} {Q : Nat → List AV → AH → Prop} {k : AV → Prog}

theorem Reps.ext {xs : List α} {cs : List AV} {F : List Nat} (r : Reps h xs cs F) (e : Ext h h') : Reps h' xs cs F :=
  r.keep fun b hb => ⟨e.2 b (r.lt b hb), Nat.lt_of_lt_of_le (r.lt b hb) e.1⟩
theorem Reps.snoc : ∀ {xs : List α} {cs : List AV} {F : List Nat} (_ : Reps h xs cs F) {x : α} {c : List AV} {G : List Nat} (_ : Cel.rep h x c G), Reps h (xs ++ [x]) (cs ++ c) (F ++ G)
  | [], cs, F, r, x, c, G, rx => by
    obtain ⟨rfl, rfl⟩ := r
    exact ⟨c, [], G, [], by simp, by simp, rx, rfl, rfl⟩
  | y :: ys, cs, F, r, x, c, G, rx => by
    obtain ⟨c1, c2, F1, F2, rfl, rfl, r1, r2⟩ := r
    exact ⟨c1, c2 ++ c, F1, F2 ++ G, by simp, by simp, r1, r2.snoc rx⟩

theorem aw_mksl {es bytes n : Nat} {zero : List AV} (hb : n * bytes ≤ 70368744177664) (hk : (k (.sl h.n 0 n)).awp P (h.push ⟨(List.replicate n zero).flatten, es, 0⟩) Q) : (Prog.op (.mksl es bytes zero (.int .i64 n) (.int .i64 n)) k).awp P h Q := by
  simp only [Prog.awp, AOp.go]
  refine ⟨Int.natCast_nonneg _, trivial, by omega, by simpa using hk⟩

theorem aw_idx_raw {b off n es i : Nat} {q : IntKind} (hi : i < n) (hk : (k (.ptr b (off + i * es))).awp P h Q) : (Prog.op (.idx es (.sl b off n) (.int q i)) k).awp P h Q := by
  simp only [Prog.awp, AOp.go]
  exact ⟨Int.natCast_nonneg _, by omega, by simpa using hk⟩

/-- How a copy of a slice is made. -/
def pToS (w bytes : Nat) (zero : List AV) (c : Nat) (x0 : AV) : Prog := .op (.len 0 x0) fun v => .op (.mksl w bytes zero v v) fun v => .loop [AV.int .i64 0] (fun vs => .op (.len 0 x0) fun v_1 => .op (.bin 0 .lss (g vs 0) v_1) fun v_2 => .ite v_2 (.op (.idx w x0 (g vs 0)) fun v_3 => .op (.ldn w v_3) fun v_4 => .op (.call c [v_4]) fun v_5 => .op (.idx w v (g vs 0)) fun v => .op (.st w v v_5) fun v => .op (.bin 0 .add (g vs 0) (AV.int .i64 1)) fun v => .leaf 0 [v]) (.leaf 2 [g vs 0])) fun t vs => tsel t 1 (.leaf 1 vs) (tsel t 2 (.fin [.val v]) .bad)

/-- What a copy is. -/
def CopyX (α : Type) [Cel α] (P : Program) (c : FuncId) (x : α) : Prop := ∀ (cs : List AV) (F : List Nat) (h : AH), Cel.rep h x cs F → ACalls P c [.agg cs] h fun v h' => Ext h h' ∧ ∃ cs' F', v = .agg cs' ∧ Cel.rep h' x cs' F' ∧ Own h.n h' F'
def CopyC (α : Type) [Cel α] (P : Program) (c : FuncId) : Prop := ∀ x : α, CopyX α P c x
def CopyS (α : Type) [Cel α] (P : Program) (c : FuncId) (n : Nat) : Prop := ∀ (xs : List α) (v : AV) (F : List Nat) (h : AH), SlRep h v xs F → xs.length * n ≤ 70368744177664 → ACalls P c [v] h fun v h' => Ext h h' ∧ ∃ F', SlRep h' v xs F' ∧ Own h.n h' F'

theorem ext_upd_new {h h1 : AH} {b : Nat} {k : Blk} (e : Ext h h1) (hb : h.n ≤ b) : Ext h (h1.upd b k) := e.upd hb k

theorem splice_mid {A C Z : List AV} {n : Nat} (hA : A.length = n) (hZ : C.length ≤ Z.length) : splice (A ++ Z) n C = A ++ C ++ Z.drop C.length := by
  subst hA
  unfold splice
  simp [List.drop_append, Nat.add_sub_cancel_left]
theorem flat_len {n : Nat} {z : List AV} : ((List.replicate n z).flatten).length = n * z.length := by simp
theorem flat_drop {n : Nat} {z : List AV} : ((List.replicate (n + 1) z).flatten).drop z.length = (List.replicate n z).flatten := by
  simp [List.replicate_succ]

theorem toSx_spec {w bytes c n : Nat} {zero : List AV} (hw : w = Cel.w α) (hz : zero.length = w) (hbn : bytes = n) {xs : List α} (hc : ∀ x ∈ xs, CopyX α P c x) {x0 : AV} {F : List Nat} (r : SlRep h x0 xs F) (hs : xs.length * n ≤ 70368744177664) :
    (pToS w bytes zero c x0).awp P h fun t vs h' => t = 1 ∧ ∃ v, vs = [v] ∧ Ext h h' ∧ ∃ F', SlRep h' v xs F' ∧ Own h.n h' F' := by
  subst hw hbn
  unfold pToS
  have hsm := r.small
  have hpos := Cel.pos (α := α)
  refine aw_len r (aw_mksl hs ?_)
  refine aw_upto xs.length (fun i vs h1 => vs = [.int .i64 (i : Int)] ∧ i ≤ xs.length ∧ Ext h h1 ∧ h.n < h1.n ∧ ∃ A FA, h1.get h.n = ⟨A ++ (List.replicate (xs.length - i) zero).flatten, Cel.w α, 0⟩ ∧ Reps h1 (xs.take i) A FA ∧ Own (h.n + 1) h1 FA) ?_ ?_
  · exact ⟨rfl, Nat.zero_le _, (Ext.refl h).push _, by simp, [], [], by simp, ⟨rfl, rfl⟩, Own.nil⟩
  · rintro i vs h1 _ ⟨rfl, hi, e, hn, A, FA, hg, ra, oa⟩
    refine aw_len r (aw_lss ?_ ?_)
    · intro hlt
      have hlt : i < xs.length := by simp [g] at hlt; exact hlt
      obtain ⟨x, hx, _, htk⟩ := drop_step hlt
      refine aw_ite_t (aw_idx r hx rfl ?_)
      intro b o cs Fi a rx _
      have hl := Cel.len rx
      refine aw_ldn_at a e hpos (by rw [List.take_of_length_le (by omega)]) hl (aw_call (hc x (List.mem_of_getElem? hx) cs Fi h1 (rep_ext rx e)) ?_)
      rintro v h2 ⟨e2, cs', F', rfl, rx', o'⟩
      have hl' := Cel.len rx'
      have hA := ra.length
      rw [List.length_take, Nat.min_eq_left hi] at hA
      have hg2 : h2.get h.n = ⟨A ++ (List.replicate (xs.length - i) zero).flatten, Cel.w α, 0⟩ := by rw [e2.2 _ hn]; exact hg
      have hle : i * Cel.w α + Cel.w α ≤ xs.length * Cel.w α := by
        have := Nat.mul_le_mul_right (Cel.w α) (show i + 1 ≤ xs.length from hlt)
        rw [Nat.succ_mul] at this; exact this
      have hZ : ((List.replicate (xs.length - i) zero).flatten).length = xs.length * Cel.w α - i * Cel.w α := by rw [flat_len, hz, Nat.mul_sub_right_distrib]
      refine aw_idx_raw (i := i) hlt ?_
      refine aw_st (by simp [mine, hg2]) rfl hl' (by simp only [hg2, List.length_append, hZ, hA]; omega) ?_
      refine aw_inc (j := i) (by omega) ?_
      refine aw_leaf ?_
      simp only [hg2, Nat.zero_add]
      simp only [if_true]
      refine ⟨hlt, trivial, hlt, (e.trans e2).upd (Nat.le_refl _) _, Nat.lt_of_lt_of_le hn e2.1, A ++ cs', FA ++ F', ?_, ?_, ?_⟩
      · have : xs.length - i = xs.length - (i + 1) + 1 := by omega
        simp only [upd_get, if_true]
        rw [splice_mid hA (by rw [hZ]; omega), this, hl', ← hz, flat_drop, hz]
      · rw [htk]
        have keep : ∀ b, h.n < b → b < h2.n → (h2.upd h.n { h2.get h.n with cells := splice (A ++ (List.replicate (xs.length - i) zero).flatten) (i * Cel.w α) cs' }).get b = h2.get b ∧ b < (h2.upd h.n { h2.get h.n with cells := splice (A ++ (List.replicate (xs.length - i) zero).flatten) (i * Cel.w α) cs' }).n := by
          intro b hb hb2
          have : b ≠ h.n := by omega
          exact ⟨by simp [this], hb2⟩
        simp only [hg2] at keep
        refine ((ra.ext e2).keep fun b hb => keep b (oa.2 b hb).1 ((ra.ext e2).lt b hb)).snoc (Cel.keep rx' fun b hb => keep b (by have := (o'.2 b hb).1; omega) (Cel.lt rx' b hb))
      · refine ⟨List.nodup_append.2 ⟨oa.1, o'.1, ?_⟩, ?_⟩
        · intro a ha b hb e
          subst e
          have := ra.lt a ha
          have := (o'.2 a hb).1
          omega
        · intro b hb
          have hb2 : h.n < b ∧ (h2.get b).st = 0 := by
            rcases List.mem_append.1 hb with hb | hb
            · have h1 := oa.2 b hb
              exact ⟨h1.1, by rw [e2.2 b (ra.lt b hb)]; exact h1.2⟩
            · have h1 := o'.2 b hb
              exact ⟨by omega, h1.2⟩
          have : b ≠ h.n := by omega
          exact ⟨hb2.1, by simp [this, hb2.2]⟩
    · intro hge
      have hge : ¬ i < xs.length := by simp [g] at hge; omega
      have hi' : i = xs.length := by omega
      subst hi'
      refine aw_ite_f (aw_leaf ?_)
      simp only [tsel, g]
      simp only [show (2 : Nat) ≠ 0 by decide, show (2 : Nat) ≠ 1 by decide, if_false, if_true]
      refine aw_fin1 ⟨rfl, _, rfl, e, h.n :: FA, .inr ⟨h.n, 0, FA, A, rfl, rfl, hn, ?_, ?_, ?_, hsm, ?_, ?_⟩, ?_⟩
      · simp [live, hg]
      · simp [hg]
      · have := ra.length
        simp at this
        simp [hg, this]
      · have := ra.length
        simp at this
        simp [hg, ← this]
      · simpa using ra
      · refine ⟨List.nodup_cons.2 ⟨fun hm => ?_, oa.1⟩, ?_⟩
        · have := (oa.2 _ hm).1; omega
        · intro b hb
          rcases List.mem_cons.1 hb with rfl | hb
          · exact ⟨Nat.le_refl _, by simp [hg]⟩
          · exact ⟨by have := (oa.2 b hb).1; omega, (oa.2 b hb).2⟩

theorem toS_spec {w bytes c n : Nat} {zero : List AV} (hw : w = Cel.w α) (hz : zero.length = w) (hbn : bytes = n) (hc : CopyC α P c) {xs : List α} {x0 : AV} {F : List Nat} (r : SlRep h x0 xs F) (hs : xs.length * n ≤ 70368744177664) :
    (pToS w bytes zero c x0).awp P h fun t vs h' => t = 1 ∧ ∃ v, vs = [v] ∧ Ext h h' ∧ ∃ F', SlRep h' v xs F' ∧ Own h.n h' F' := toSx_spec hw hz hbn (fun x _ => hc x) r hs
end
end Go.Ab
