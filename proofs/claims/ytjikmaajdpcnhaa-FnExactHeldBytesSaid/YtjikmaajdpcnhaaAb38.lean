/- Appends: one value; a whole slice. -/
import Derived.Test.YtjikmaajdpcnhaaAb37
set_option linter.unusedSimpArgs false
set_option linter.unusedVariables false
namespace Go.Ab
open Go.RowKit

section
variable {α : Type} [Cel α] {P : Program} {h : AH} {Q : Nat → List AV → AH → Prop} {k : AV → Prog}
theorem empty_own {w : Nat} (hw : w = Cel.w α) : SlRep (h.push ⟨[], w, 0⟩) (.sl h.n 0 0) ([] : List α) [h.n] ∧ ∀ n, n ≤ h.n → Own n (h.push ⟨[], w, 0⟩) [h.n] := by
  subst hw
  exact ⟨slrep_push (n := 0) rfl (by decide) ⟨rfl, rfl⟩, fun n hn => own_push hn rfl (by simp) Own.nil⟩

/-- One value is appended; where what it owns lies. -/
theorem app1F {n es bytes : Nat} {x : AV} {xs : List α} {a : α} {cs : List AV} {Fx G : List Nat} (rx : SlRep h x xs Fx) (ra : Cel.rep h a cs G) (o : Own n h (Fx ++ G)) (hn : n ≤ h.n) (hw : es = Cel.w α) (hs : (xs.length + 1) * bytes ≤ 70368744177664) (hs2 : xs.length + 1 < 281474976710656)
    (hk : ∀ v h' F', (∀ h0, Ext h0 h → h0.n ≤ n → Ext h0 h') → Kp h h' Fx → SlRep h' v (xs ++ [a]) F' → Own n h' F' → (∀ c ∈ F', c ∈ Fx ∨ c ∈ G ∨ h.n ≤ c) → (k v).awp P h' Q) : (Prog.op (.app es bytes x (.sl h.n 0 1)) k).awp P (h.push ⟨cs, es, 0⟩) Q := by
  subst hw
  have ry := slrep_push (n := 1) (xs := [a]) rfl (by decide) (reps_one ra)
  refine aw_appF (n := n) (slr_push1 rx) ry ?_ (by simp; omega) rfl (by simpa using hs) (by simpa using hs2) ?_
  · simp only [List.tail_cons]
    refine o.ext ((Ext.refl h).push _) fun b hb => ?_
    rcases List.mem_append.1 hb with hb | hb
    · exact rx.lt b hb
    · exact Cel.lt ra b hb
  · intro v h' F' kp r' o' hF
    have kp' : Kp h h' Fx := (Kp.of_ext ((Ext.refl h).push _)).trans kp
    refine hk v h' F' (fun h0 e hn0 => kp'.ext e fun b hb => ?_) kp' r' o' fun c hc => ?_
    · have := (o.2 b (List.mem_append_left _ hb)).1; omega
    · rcases hF c hc with hc | hc | hc
      · exact .inl hc
      · exact .inr (.inl hc)
      · exact .inr (.inr (Nat.le_trans (by simp) hc))

/-- One value is appended. -/
theorem app1 {n es bytes : Nat} {x : AV} {xs : List α} {a : α} {cs : List AV} {Fx G : List Nat} (rx : SlRep h x xs Fx) (ra : Cel.rep h a cs G) (o : Own n h (Fx ++ G)) (hn : n ≤ h.n) (hw : es = Cel.w α) (hs : (xs.length + 1) * bytes ≤ 70368744177664) (hs2 : xs.length + 1 < 281474976710656)
    (hk : ∀ v h' F', (∀ h0, Ext h0 h → h0.n ≤ n → Ext h0 h') → Kp h h' Fx → SlRep h' v (xs ++ [a]) F' → Own n h' F' → (k v).awp P h' Q) : (Prog.op (.app es bytes x (.sl h.n 0 1)) k).awp P (h.push ⟨cs, es, 0⟩) Q := by
  subst hw
  have ry := slrep_push (n := 1) (xs := [a]) rfl (by decide) (reps_one ra)
  refine aw_app (n := n) (slr_push1 rx) ry ?_ (by simp; omega) rfl (by simpa using hs) (by simpa using hs2) ?_
  · simp only [List.tail_cons]
    refine o.ext ((Ext.refl h).push _) fun b hb => ?_
    rcases List.mem_append.1 hb with hb | hb
    · exact rx.lt b hb
    · exact Cel.lt ra b hb
  · intro v h' F' kp r' o'
    have kp' : Kp h h' Fx := (Kp.of_ext ((Ext.refl h).push _)).trans kp
    refine hk v h' F' (fun h0 e hn0 => kp'.ext e fun b hb => ?_) kp' r' o'
    have := (o.2 b (List.mem_append_left _ hb)).1; omega

/-- A slice is appended to nothing. -/
theorem app0 {n es bytes : Nat} {y : AV} {ys : List α} {Fy : List Nat} (ry : SlRep h y ys Fy) (o : Own n h Fy.tail) (hn : n ≤ h.n) (hw : es = Cel.w α) (hs : ys.length * bytes ≤ 70368744177664)
    (hk : ∀ v h' F', Ext h h' → SlRep h' v ys F' → Own n h' F' → (k v).awp P h' Q) : (Prog.op (.app es bytes .nils y) k).awp P h Q := by
  have := ry.small
  refine aw_app (n := n) (xs := []) SlRep.nils ry (by simpa using o) hn hw (by simpa using hs) (by simpa using this) ?_
  intro v h' F' kp r' o'
  exact hk v h' F' (kp.ext (Ext.refl _) (by simp)) r' o'
/-- .. or to an empty slice of one's own. -/
theorem appE {n es bytes : Nat} {y : AV} {ys : List α} {Fy : List Nat} (ry : SlRep h y ys Fy) (o : Own n h Fy.tail) (hn : n ≤ h.n) (hw : es = Cel.w α) (hs : ys.length * bytes ≤ 70368744177664)
    (hk : ∀ v h' F', Ext h h' → SlRep h' v ys F' → Own n h' F' → (k v).awp P h' Q) : (Prog.op (.app es bytes (.sl h.n 0 0) y) k).awp P (h.push ⟨[], es, 0⟩) Q := by
  have hsm := ry.small
  obtain ⟨re, oe⟩ := empty_own (h := h) (α := α) hw
  have hlt := ry.lt
  have hltt : ∀ b ∈ Fy.tail, b < h.n := fun b hb => hlt b (List.mem_of_mem_tail hb)
  refine aw_app (n := n) (xs := []) re (slr_push1 ry) ?_ (by simp; omega) hw (by simpa using hs) (by simpa using hsm) ?_
  · exact own_push hn rfl hltt o
  · intro v h' F' kp r' o'
    exact hk v h' F' ⟨Nat.le_trans (by simp) kp.1, fun b hb => by
      rw [kp.2 b (by simp; omega) (by simp; omega)]
      have : b ≠ h.n := by omega
      simp [this]⟩ r' o'
end
section
variable {α : Type} [Flat α] {h : AH}
theorem tail_nil {v : AV} {xs : List α} {F : List Nat} (r : SlRep h v xs F) (n : Nat) : Own n h F.tail := by
  rcases r.flat with ⟨_, _, rfl⟩ | ⟨b, _, _, _, rfl, _⟩ <;> exact Own.nil
end
end Go.Ab
