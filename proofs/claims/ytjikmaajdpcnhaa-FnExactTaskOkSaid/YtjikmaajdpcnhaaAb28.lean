/- Slices of one's own: new ones, and what is appended. -/
import Derived.Test.YtjikmaajdpcnhaaAb27
set_option linter.unusedSimpArgs false
set_option linter.unusedVariables false
namespace Go.Ab
open Go.RowKit

/-- A new slice, handed back. -/
def NewS (α : Type) [Cel α] (h : AH) (xs : List α) : AV → AH → Prop := fun v h' => Ext h h' ∧ ∃ F, SlRep h' v xs F ∧ Own h.n h' F

/-- All but 'X' is kept. -/
def Kp (h h' : AH) (X : List Nat) : Prop := h.n ≤ h'.n ∧ ∀ b, b < h.n → b ∉ X → h'.get b = h.get b
theorem Kp.refl (h : AH) (X : List Nat) : Kp h h X := ⟨Nat.le_refl _, fun _ _ _ => rfl⟩
theorem Kp.of_ext {h h' : AH} {X : List Nat} (e : Ext h h') : Kp h h' X := ⟨e.1, fun b hb _ => e.2 b hb⟩
theorem Kp.ext {h0 h h' : AH} {X : List Nat} (e : Ext h0 h) (k : Kp h h' X) (hX : ∀ b ∈ X, h0.n ≤ b) : Ext h0 h' :=
  ⟨Nat.le_trans e.1 k.1, fun b hb => by
    rw [k.2 b (Nat.lt_of_lt_of_le hb e.1) fun hm => by have := hX b hm; omega]
    exact e.2 b hb⟩
theorem Kp.trans {a b c : AH} {X : List Nat} (k : Kp a b X) (k' : Kp b c X) : Kp a c X :=
  ⟨Nat.le_trans k.1 k'.1, fun i hi hX => (k'.2 i (Nat.lt_of_lt_of_le hi k.1) hX).trans (k.2 i hi hX)⟩
theorem Kp.trans_ext {a b c : AH} {X : List Nat} (k : Kp a b X) (e : Ext b c) : Kp a c X := k.trans (Kp.of_ext e)

section
variable {α : Type} [Cel α] {P : Program} {h h' : AH} {Q : Nat → List AV → AH → Prop} {k : AV → Prog}

theorem SlRep.kp {v : AV} {xs : List α} {F X : List Nat} (r : SlRep h v xs F) (kp : Kp h h' X) (hd : ∀ b ∈ F, b ∉ X) : SlRep h' v xs F :=
  r.keep fun b hb => ⟨kp.2 b (r.lt b hb) (hd b hb), Nat.lt_of_lt_of_le (r.lt b hb) kp.1⟩

theorem aw_bslice {es n : Nat} {zero cs : List AV} {parts : List (Nat × Nat × AV)} (hc : afill zero parts = some cs) (h1 : n * es ≤ 16777216) (h2 : cs.length = n * es) (hk : (k (.sl h.n 0 n)).awp P (h.push ⟨cs, es, 0⟩) Q) : (Prog.op (.bslice es n zero parts) k).awp P h Q := by
  simp only [Prog.awp, AOp.go, hc]; exact ⟨h1, h2, hk⟩

theorem Own.ext {n : Nat} {F : List Nat} (o : Own n h F) (e : Ext h h') (hlt : ∀ b ∈ F, b < h.n) : Own n h' F := o.mono (Nat.le_refl _) fun b hb => e.2 b (hlt b hb)
theorem reps_one {x : α} {cs : List AV} {F : List Nat} (r : Cel.rep h x cs F) : Reps h [x] cs F := ⟨cs, [], F, [], by simp, by simp, r, rfl, rfl⟩
/-- A new slice. -/
theorem slrep_push {xs : List α} {cs : List AV} {F : List Nat} {n : Nat} (hn : xs.length = n) (hs : n < 281474976710656) (r : Reps h xs cs F) : SlRep (h.push ⟨cs, Cel.w α, 0⟩) (.sl h.n 0 n) xs (h.n :: F) := by
  have hl := r.length
  refine .inr ⟨h.n, 0, F, cs, by rw [hn], rfl, by simp, by simp [live], by simp, by simp [hl], by omega, by simp [← hl], r.ext ((Ext.refl h).push _)⟩
theorem own_push {n : Nat} {F : List Nat} {kk : Blk} (hn : n ≤ h.n) (hk : kk.st = 0) (hF : ∀ b ∈ F, b < h.n) (o : Own n h F) : Own n (h.push kk) (h.n :: F) := by
  refine ⟨List.nodup_cons.2 ⟨fun hm => by have := hF _ hm; omega, o.1⟩, ?_⟩
  intro b hb
  rcases List.mem_cons.1 hb with rfl | hb
  · exact ⟨hn, by simp [hk]⟩
  · have := hF b hb
    have e : b ≠ h.n := by omega
    exact ⟨(o.2 b hb).1, by simp [e, (o.2 b hb).2]⟩

/-- The cells of a slice. -/
theorem SlRep.cells {v : AV} {xs : List α} {F : List Nat} (r : SlRep h v xs F) : ∃ cs, slcells h (Cel.w α) v = some cs ∧ sllen v = some xs.length ∧ slive h v ∧ Reps h xs cs F.tail := by
  rcases r with ⟨rfl, h1, rfl⟩ | ⟨b, off, F', cs, rfl, rfl, h1, h2, h3, h4, h5, h6, h7⟩
  · have : xs = [] := List.length_eq_zero_iff.1 h1
    subst this
    exact ⟨[], rfl, rfl, trivial, rfl, rfl⟩
  · exact ⟨cs, by simp only [slcells, h4, if_true, h6], rfl, .inr h2, h7⟩

theorem Reps.append : ∀ {xs ys : List α} {cs ds : List AV} {F G : List Nat} (_ : Reps h xs cs F) (_ : Reps h ys ds G), Reps h (xs ++ ys) (cs ++ ds) (F ++ G)
  | [], ys, cs, ds, F, G, r, r' => by obtain ⟨rfl, rfl⟩ := r; simpa using r'
  | x :: xs, ys, cs, ds, F, G, r, r' => by
    obtain ⟨c1, c2, F1, F2, rfl, rfl, r1, r2⟩ := r
    exact ⟨c1, c2 ++ ds, F1, F2 ++ G, by simp, by simp, r1, r2.append r'⟩

theorem aw_appF {n es bytes : Nat} {x y : AV} {xs ys : List α} {Fx Fy : List Nat} (rx : SlRep h x xs Fx) (ry : SlRep h y ys Fy) (o : Own n h (Fx ++ Fy.tail)) (hn : n ≤ h.n) (hw : es = Cel.w α)
    (hb : (xs.length + ys.length) * bytes ≤ 70368744177664) (hs : xs.length + ys.length < 281474976710656)
    (hk : ∀ v h' F', Kp h h' Fx → SlRep h' v (xs ++ ys) F' → Own n h' F' → (∀ c ∈ F', c ∈ Fx ∨ c ∈ Fy.tail ∨ h.n ≤ c) → (k v).awp P h' Q) : (Prog.op (.app es bytes x y) k).awp P h Q := by
  subst hw
  obtain ⟨new, hc, hl, hlv, rys⟩ := ry.cells
  have hpos := Cel.pos (α := α)
  rcases rx with ⟨rfl, h1, rfl⟩ | ⟨b, off, F', cs, rfl, rfl, h1, h2, h3, h4, h5, h6, h7⟩
  · have hx : xs = [] := List.length_eq_zero_iff.1 h1
    subst hx
    simp only [List.nil_append, List.length_nil, Nat.zero_add] at o hb hs hk
    simp only [Prog.awp, AOp.go, hc, hl]
    refine ⟨hlv, hb, ?_⟩
    split
    · rename_i h0
      have : ys = [] := List.length_eq_zero_iff.1 h0
      subst this
      exact hk .nils h [] (Kp.refl _ _) SlRep.nils Own.nil (by simp)
    · exact hk _ _ _ (Kp.of_ext ((Ext.refl h).push _)) (slrep_push rfl hs rys) (own_push hn rfl (rys.lt) o) (by simp; exact fun c hc => .inl hc)
  · have hnd := o.1
    have hmine : mine h b := (o.2 b (by simp)).2
    have hbF : b ∉ F' ∧ b ∉ Fy.tail := by
      have := (List.nodup_cons.1 (show (b :: (F' ++ Fy.tail)).Nodup from hnd)).1
      simpa [not_or] using this
    have hcl := h7.length
    have hnl := rys.length
    simp only [Prog.awp, AOp.go, hc, hl]
    refine ⟨hmine, hlv, by omega, h3, ?_⟩
    have hmul : (xs.length + ys.length) * Cel.w α = xs.length * Cel.w α + ys.length * Cel.w α := Nat.add_mul _ _ _
    split
    · rename_i hfit
      have hkeep : ∀ c, c ≠ b → c < h.n → (h.upd b { h.get b with cells := splice (h.get b).cells (off + xs.length * Cel.w α) new }).get c = h.get c ∧ c < (h.upd b { h.get b with cells := splice (h.get b).cells (off + xs.length * Cel.w α) new }).n :=
        fun c hc hlt => ⟨by simp [hc], hlt⟩
      have hlt1 := h7.lt
      have hlt2 := rys.lt
      refine hk _ _ (b :: (F' ++ Fy.tail)) ⟨Nat.le_refl _, fun c hc hX => (hkeep c (fun e => hX (by simp [e])) hc).1⟩ (.inr ⟨b, off, F' ++ Fy.tail, cs ++ new, by simp, rfl, h1, ?_, ?_, ?_, by simp; omega, ?_, ?_⟩) ?_ (by intro c hc; simp at hc ⊢; rcases hc with hc | hc | hc <;> simp [hc])
      · unfold live; simp; unfold mine at hmine; omega
      · simp [h3]
      · simp only [upd_get, if_true, splice, List.length_append, List.length_take, List.length_drop, hnl]; omega
      · have hA : ((h.get b).cells.take (off + xs.length * Cel.w α)) = (h.get b).cells.take off ++ cs := by rw [h6, List.take_add]
        have hAl : ((h.get b).cells.take off).length = off := by simp; omega
        simp only [upd_get, if_true, splice, hA, List.append_assoc]
        rw [List.drop_append_of_le_length (by omega), List.drop_of_length_le (by omega), List.nil_append, ← List.append_assoc, List.take_append_of_le_length (by simp; omega)]
        rw [List.take_of_length_le (by simp; omega)]
      · exact (h7.keep fun c hc => hkeep c (fun e => hbF.1 (e ▸ hc)) (hlt1 c hc)).append (rys.keep fun c hc => hkeep c (fun e => hbF.2 (e ▸ hc)) (hlt2 c hc))
      · refine ⟨hnd, fun c hc => ?_⟩
        have := o.2 c hc
        refine ⟨this.1, ?_⟩
        by_cases e : c = b
        · subst e; simpa using this.2
        · simp [e, this.2]
    · refine ⟨hb, by omega, ?_⟩
      have hcs : ((h.get b).cells.drop off).take (xs.length * Cel.w α) = cs := h6.symm
      rw [hcs]
      have e : ∀ c, c ≠ b → c < h.n → (h.kill b).get c = h.get c ∧ c < (h.kill b).n := fun c hc hlt => ⟨by simp [AH.kill, hc], hlt⟩
      have r2 : Reps (h.kill b) (xs ++ ys) (cs ++ new) (F' ++ Fy.tail) :=
        (h7.keep fun c hc => e c (fun e => hbF.1 (e ▸ hc)) (h7.lt c hc)).append (rys.keep fun c hc => e c (fun e => hbF.2 (e ▸ hc)) (rys.lt c hc))
      have hkn : (h.kill b).n = h.n := rfl
      have key := slrep_push (n := xs.length + ys.length) (by simp) hs r2
      rw [hkn] at key
      refine hk _ _ _ ⟨by simp [hkn], fun c hc hX => ?_⟩ key ?_ (by intro c hc; simp at hc ⊢; rcases hc with hc | hc | hc <;> simp [hc])
      · have h1 : c ≠ b := fun e => hX (by simp [e])
        have h2 : c ≠ h.n := by omega
        simp [AH.kill, h1, h2, hkn]
      · have o2 : Own n (h.kill b) (F' ++ Fy.tail) := by
          refine ⟨(List.nodup_cons.1 (show (b :: (F' ++ Fy.tail)).Nodup from hnd)).2, fun c hc => ?_⟩
          have := o.2 c (by simp at hc ⊢; exact .inr hc)
          have hne : c ≠ b := fun e => by
            subst e; simp at hc; rcases hc with hc | hc
            · exact hbF.1 hc
            · exact hbF.2 hc
          exact ⟨this.1, by simp [AH.kill, hne, this.2]⟩
        exact own_push (by rw [hkn]; exact hn) rfl r2.lt o2

theorem aw_app {n es bytes : Nat} {x y : AV} {xs ys : List α} {Fx Fy : List Nat} (rx : SlRep h x xs Fx) (ry : SlRep h y ys Fy) (o : Own n h (Fx ++ Fy.tail)) (hn : n ≤ h.n) (hw : es = Cel.w α)
    (hb : (xs.length + ys.length) * bytes ≤ 70368744177664) (hs : xs.length + ys.length < 281474976710656)
    (hk : ∀ v h' F', Kp h h' Fx → SlRep h' v (xs ++ ys) F' → Own n h' F' → (k v).awp P h' Q) : (Prog.op (.app es bytes x y) k).awp P h Q := aw_appF rx ry o hn hw hb hs fun v h' F' a b c _ => hk v h' F' a b c
end
end Go.Ab
