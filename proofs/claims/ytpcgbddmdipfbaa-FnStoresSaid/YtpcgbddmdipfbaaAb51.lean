/- A value is put between the parts of a slice of one's own: a new slice. -/
import Derived.Test.YtpcgbddmdipfbaaAb50
set_option linter.unusedSimpArgs false
set_option linter.unusedVariables false
namespace Go.Ab
open Go.RowKit

section
variable {α : Type} [Cel α] {P : Program} {h : AH} {Q : Nat → List AV → AH → Prop} {k : AV → Prog} {n : Nat}
/-- The two parts of a slice of one's own. -/
theorem SlRep.cut {v : AV} {xs : List α} {F : List Nat} (r : SlRep h v xs F) (o : Own n h F) {k : Nat} (hk : k ≤ xs.length) :
    ∃ u1 u2 B E1 E2, F = B ++ (E1 ++ E2) ∧ SlRep h u1 (xs.take k) (B ++ E1) ∧ (B ++ E1).tail = E1 ∧ SlRep h u2 (xs.drop k) (B ++ E2) ∧ (B ++ E2).tail = E2 ∧
      (∀ (h2 : AH) (K : AV → AH → Prop), (∀ c ∈ B, h2.get c = h.get c) → K u1 h2 → AOp.go P (.slc (Cel.w α) v none (some (.int .i64 (k : Int))) none) h2 K) ∧
      (∀ (h2 : AH) (K : AV → AH → Prop), (∀ c ∈ B, h2.get c = h.get c) → K u2 h2 → AOp.go P (.slc (Cel.w α) v (some (.int .i64 (k : Int))) none none) h2 K) := by
  rcases r with ⟨rfl, h1, rfl⟩ | ⟨b, off, F', cs, rfl, rfl, h1, h2, h3, h4, h5, h6, h7⟩
  · have hx : xs = [] := List.length_eq_zero_iff.1 h1
    subst hx
    have hk0 : k = 0 := by simpa using hk
    subst hk0
    refine ⟨.nils, .nils, [], [], [], rfl, SlRep.nils, rfl, SlRep.nils, rfl, fun h2 K _ hK => ?_, fun h2 K _ hK => ?_⟩
    · simp only [AOp.go, bnd, asInt?]
      exact ⟨by first | trivial | rfl, by first | trivial | rfl, by first | trivial | rfl, hK⟩
    · simp only [AOp.go, bnd, asInt?]
      exact ⟨by first | trivial | rfl, by first | trivial | rfl, by first | trivial | rfl, hK⟩
  · have hsp : xs = xs.take k ++ xs.drop k := (List.take_append_drop _ _).symm
    have h7' := h7
    rw [hsp] at h7'
    obtain ⟨c1, c2, E1, E2, e1, rfl, q1, q2⟩ := h7'.app_split
    have l1 := q1.length
    have l2 := q2.length
    rw [List.length_take, Nat.min_eq_left hk] at l1
    rw [List.length_drop] at l2
    have hst : (h.get b).st = 0 := (o.2 b (by simp)).2
    have hw := Cel.pos (α := α)
    have hmul : xs.length * Cel.w α = k * Cel.w α + (xs.length - k) * Cel.w α := by rw [← Nat.add_mul]; congr 1; omega
    have ec := h6
    rw [e1] at ec
    have t1 : c1 = ((h.get b).cells.drop off).take (k * Cel.w α) := by
      have := congrArg (List.take (k * Cel.w α)) ec
      rw [List.take_append_of_le_length (by omega), List.take_of_length_le (by omega), List.take_take, Nat.min_eq_left (by omega)] at this
      exact this
    have t2 : c2 = ((h.get b).cells.drop (off + k * Cel.w α)).take ((xs.length - k) * Cel.w α) := by
      have := congrArg (List.drop (k * Cel.w α)) ec
      rw [List.drop_append_of_le_length (by omega), List.drop_of_length_le (by omega), List.nil_append, List.drop_take, List.drop_drop] at this
      rw [this]; congr 1; omega
    refine ⟨.sl b off k, .sl b (off + k * Cel.w α) (xs.length - k), [b], E1, E2, rfl, .inr ⟨b, off, E1, c1, by rw [List.length_take, Nat.min_eq_left hk], rfl, h1, h2, h3, ?_, ?_, ?_, q1⟩, rfl, .inr ⟨b, off + k * Cel.w α, E2, c2, by rw [List.length_drop], rfl, h1, h2, h3, ?_, ?_, ?_, q2⟩, rfl, fun h2 K hb hK => ?_, fun h2 K hb hK => ?_⟩
    · rw [List.length_take, Nat.min_eq_left hk]; omega
    · rw [List.length_take, Nat.min_eq_left hk]; omega
    · rw [List.length_take, Nat.min_eq_left hk]; exact t1
    · rw [List.length_drop]; omega
    · rw [List.length_drop]; omega
    · rw [List.length_drop]; exact t2
    · have hb := hb b (by simp)
      simp only [AOp.go, bnd, asInt?]
      have hle : k * Cel.w α ≤ xs.length * Cel.w α := Nat.mul_le_mul_right _ hk
      refine ⟨by omega, by rw [hb]; exact h3, by unfold mine; rw [hb]; exact hst, by rw [hb]; exact h4, Int.le_refl _, Int.natCast_nonneg _, by rw [hb]; simp; omega, ?_⟩
      simpa using hK
    · have hb := hb b (by simp)
      simp only [AOp.go, bnd, asInt?]
      refine ⟨by omega, by rw [hb]; exact h3, by unfold mine; rw [hb]; exact hst, by rw [hb]; exact h4, Int.natCast_nonneg _, by omega, by rw [hb]; simpa using h4, ?_⟩
      have : ((xs.length : Int) - (k : Int)).toNat = xs.length - k := by omega
      simpa [this] using hK
theorem aw_go {o : AOp} (g : o.go P h fun v h' => (k v).awp P h' Q) : (Prog.op o k).awp P h Q := g

/-- Three slices are joined: an empty one of one's own, a part, one value, the other part. -/
theorem chain {n es bytes e m : Nat} {u1 u2 : AV} {xs ys : List α} {t : α} {B E1 E2 Gt : List Nat} {K : AV → Prog} (C1 C2 : Prog → Prog) {h0 : AH}
    (he : SlRep h (.sl e 0 0) ([] : List α) [e]) (re : Own n h [e]) (r1 : SlRep h u1 xs (B ++ E1)) (t1 : (B ++ E1).tail = E1) (r2 : SlRep h u2 ys (B ++ E2)) (t2 : (B ++ E2).tail = E2) (rm : SlRep h (.sl m 0 1) [t] (m :: Gt)) (o : Own n h ((B ++ (E1 ++ E2)) ++ Gt)) (hen : e ∉ (B ++ (E1 ++ E2)) ++ (m :: Gt)) (hmn : m ∉ (B ++ (E1 ++ E2)) ++ Gt)
    (hn : n ≤ h.n) (hw : es = Cel.w α) (hb : (xs.length + ys.length + 1) * bytes ≤ 70368744177664) (hs : xs.length + ys.length + 1 < 281474976710656) (e0 : Ext h0 h) (hn0 : h0.n ≤ n)
    (hC1 : ∀ h3 p, Kp h h3 [e] → p.awp P h3 Q → (C1 p).awp P h3 Q) (hC2 : ∀ h4 p, (∀ c ∈ B, h4.get c = h.get c) → p.awp P h4 Q → (C2 p).awp P h4 Q)
    (hk : ∀ v h' F', Ext h0 h' → SlRep h' v (xs ++ t :: ys) F' → Own n h' F' → h.n ≤ h'.n → (K v).awp P h' Q) :
    (Prog.op (.app es bytes (.sl e 0 0) u1) fun v => C1 (Prog.op (.app es bytes v (.sl m 0 1)) fun v => C2 (Prog.op (.app es bytes v u2) K))).awp P h Q := by
  subst hw
  have nd := List.nodup_append.1 o.1
  have ndB := List.nodup_append.1 nd.1
  have ndE := List.nodup_append.1 ndB.2.1
  simp only [List.mem_append, List.mem_cons, not_or] at hen hmn
  have oE1 : Own n h E1 := ⟨ndE.1, fun c hc => o.2 c (by simp [hc])⟩
  have oE2 : Own n h E2 := ⟨ndE.2.1, fun c hc => o.2 c (by simp [hc])⟩
  have oG : Own n h Gt := ⟨nd.2.1, fun c hc => o.2 c (by simp [hc])⟩
  have ltB : ∀ c ∈ B, c < h.n := fun c hc => r1.lt c (by simp [hc])
  have ltE1 : ∀ c ∈ E1, c < h.n := fun c hc => r1.lt c (by simp [hc])
  have ltE2 : ∀ c ∈ E2, c < h.n := fun c hc => r2.lt c (by simp [hc])
  have ltG : ∀ c ∈ Gt, c < h.n := fun c hc => rm.lt c (by simp [hc])
  have ltm : m < h.n := rm.lt m (by simp)
  have lte : e < h.n := he.lt e (by simp)
  have dB1 : ∀ c ∈ B, c ∉ E1 := fun c hc hc' => ndB.2.2 c hc c (by simp [hc']) rfl
  have dBG : ∀ c ∈ B, c ∉ Gt := fun c hc hc' => nd.2.2 c (by simp [hc]) c hc' rfl
  have d1G : ∀ c ∈ E1, c ∉ Gt := fun c hc hc' => nd.2.2 c (by simp [hc]) c hc' rfl
  have d2G : ∀ c ∈ E2, c ∉ Gt := fun c hc hc' => nd.2.2 c (by simp [hc]) c hc' rfl
  have d12 : ∀ c ∈ E1, c ∉ E2 := fun c hc hc' => ndE.2.2 c hc c hc' rfl
  have dB2 : ∀ c ∈ B, c ∉ E2 := fun c hc hc' => ndB.2.2 c hc c (by simp [hc']) rfl
  refine aw_appF (n := n) he r1 (by rw [t1]; exact own_app re oE1 (Nat.le_refl _) fun c hc hc' => by rw [List.mem_singleton.1 hc] at hc'; exact hen.1.2.1 hc') hn rfl (by simp only [List.length_nil]; exact Nat.le_trans (Nat.mul_le_mul_right _ (by omega)) hb) (by simp only [List.length_nil]; omega) ?_
  intro v3 h3 F3 k3 r3 o3 w3
  rw [t1] at w3
  have in3 : ∀ c ∈ F3, c = e ∨ c ∈ E1 ∨ h.n ≤ c := fun c hc => by
    rcases w3 c hc with g | g | g
    · exact .inl (List.mem_singleton.1 g)
    · exact .inr (.inl g)
    · exact .inr (.inr g)
  refine hC1 h3 _ k3 ?_
  have get3 : ∀ c, c < h.n → c ≠ e → h3.get c = h.get c := fun c hc hne => k3.2 c hc (by simpa using hne)
  have rm3 : SlRep h3 (.sl m 0 1) [t] (m :: Gt) := slr_kp1 k3 rm fun c hc hc' => by
    rw [List.mem_singleton.1 hc'] at hc
    rcases List.mem_cons.1 hc with g | g
    · exact hen.2.1 g
    · exact hen.2.2 g
  have r23 : SlRep h3 u2 ys (B ++ E2) := slr_kp1 k3 r2 fun c hc hc' => by
    rw [List.mem_singleton.1 hc'] at hc
    rcases List.mem_append.1 hc with g | g
    · exact hen.1.1 g
    · exact hen.1.2.2 g
  have oG3 : Own n h3 Gt := oG.mono (Nat.le_refl _) fun c hc => get3 c (ltG c hc) fun g => hen.2.2 (g ▸ hc)
  have oE23 : Own n h3 E2 := oE2.mono (Nat.le_refl _) fun c hc => get3 c (ltE2 c hc) fun g => hen.1.2.2 (g ▸ hc)
  have d3G : ∀ c ∈ F3, c ∉ Gt := fun c hc hc' => by
    rcases in3 c hc with g | g | g
    · exact hen.2.2 (g ▸ hc')
    · exact d1G c g hc'
    · have := ltG c hc'; omega
  have d32 : ∀ c ∈ F3, c ∉ E2 := fun c hc hc' => by
    rcases in3 c hc with g | g | g
    · exact hen.1.2.2 (g ▸ hc')
    · exact d12 c g hc'
    · have := ltE2 c hc'; omega
  have d3B : ∀ c ∈ F3, c ∉ B := fun c hc hc' => by
    rcases in3 c hc with g | g | g
    · exact hen.1.1 (g ▸ hc')
    · exact dB1 c hc' g
    · have := ltB c hc'; omega
  refine aw_appF (n := n) r3 rm3 (by simp only [List.tail_cons]; exact own_app o3 oG3 (Nat.le_refl _) d3G) (Nat.le_trans hn k3.1) rfl (by simp only [List.nil_append, List.length_singleton]; exact Nat.le_trans (Nat.mul_le_mul_right _ (by omega)) hb) (by simp only [List.nil_append, List.length_singleton]; omega) ?_
  intro v4 h4 F4 k4 r4 o4 w4
  simp only [List.tail_cons, List.nil_append] at w4 r4
  refine hC2 h4 _ (fun c hc => ?_) ?_
  · rw [k4.2 c (Nat.lt_of_lt_of_le (ltB c hc) k3.1) (fun g => d3B c g hc)]
    exact get3 c (ltB c hc) fun g => hen.1.1 (g ▸ hc)
  have r24 : SlRep h4 u2 ys (B ++ E2) := slr_kp1 k4 r23 fun c hc hc' => by
    rcases List.mem_append.1 hc with g | g
    · exact d3B c hc' g
    · exact d32 c hc' g
  have oE24 : Own n h4 E2 := oE23.mono (Nat.le_refl _) fun c hc => k4.2 c (Nat.lt_of_lt_of_le (ltE2 c hc) k3.1) fun g => d32 c g hc
  have d42 : ∀ c ∈ F4, c ∉ E2 := fun c hc hc' => by
    rcases w4 c hc with g | g | g
    · exact d32 c g hc'
    · exact d2G c hc' g
    · have := ltE2 c hc'; have := k3.1; omega
  refine aw_appF (n := n) r4 r24 (by rw [t2]; exact own_app o4 oE24 (Nat.le_refl _) d42) (Nat.le_trans hn (Nat.le_trans k3.1 k4.1)) rfl (by simp only [List.length_append, List.length_singleton]; exact Nat.le_trans (Nat.mul_le_mul_right _ (by omega)) hb) (by simp only [List.length_append, List.length_singleton]; omega) ?_
  intro v5 h5 F5 k5 r5 o5 w5
  refine hk v5 h5 F5 ?_ (by simpa using r5) o5 (Nat.le_trans k3.1 (Nat.le_trans k4.1 k5.1))
  have x3 : Ext h0 h3 := k3.ext e0 fun b hb => by rw [List.mem_singleton.1 hb]; have := (re.2 e (by simp)).1; omega
  have x4 : Ext h0 h4 := k4.ext x3 fun b hb => by have := (o3.2 b hb).1; omega
  exact k5.ext x4 fun b hb => by have := (o4.2 b hb).1; omega
end
end Go.Ab
