/- Two elements of a slice of one's own, which change places. -/
import Derived.Test.YtpcgbddmdipfbaaAb44
set_option linter.unusedSimpArgs false
set_option linter.unusedVariables false
namespace Go.Ab
open Go.RowKit

theorem perm_two {b : Nat} {H1 Fx H2 Fy G3 : List Nat} : (b :: (H1 ++ (Fy ++ (H2 ++ (Fx ++ G3))))).Perm (b :: (H1 ++ (Fx ++ (H2 ++ (Fy ++ G3))))) := by
  refine List.Perm.cons _ (List.Perm.append_left _ ?_)
  have a1 : (Fy ++ (H2 ++ (Fx ++ G3))).Perm ((Fx ++ G3) ++ (Fy ++ H2)) := by
    rw [← List.append_assoc]; exact List.perm_append_comm
  have a2 : ((Fx ++ G3) ++ (Fy ++ H2)).Perm (Fx ++ (H2 ++ (Fy ++ G3))) := by
    rw [List.append_assoc]
    refine List.Perm.append_left _ ?_
    have b1 : (G3 ++ (Fy ++ H2)).Perm ((Fy ++ H2) ++ G3) := List.perm_append_comm
    refine b1.trans ?_
    rw [← List.append_assoc]
    exact List.Perm.append_right _ List.perm_append_comm
  exact a1.trans a2
section
variable {α : Type} [Cel α] {P : Program} {h : AH}
theorem SlRep.two {n : Nat} {v : AV} {xs : List α} {F : List Nat} (r : SlRep h v xs F) (o : Own n h F) {i j : Nat} {x y : α} (hij : i < j) (hx : xs[i]? = some x) (hy : xs[j]? = some y) :
    ∃ b off A cx M cy R G1 Fx G2 Fy G3, v = .sl b off xs.length ∧ F = b :: (G1 ++ (Fx ++ (G2 ++ (Fy ++ G3)))) ∧ h.get b = ⟨A ++ (cx ++ (M ++ (cy ++ R))), Cel.w α, 0⟩ ∧ b < h.n ∧ A.length = off + i * Cel.w α ∧ A.length + cx.length + M.length = off + j * Cel.w α ∧ Cel.rep h x cx Fx ∧ Cel.rep h y cy Fy ∧
    ∀ h', h'.get b = ⟨A ++ (cy ++ (M ++ (cx ++ R))), Cel.w α, 0⟩ → Kp h h' [b] → SlRep h' v (swp xs i j) (b :: (G1 ++ (Fy ++ (G2 ++ (Fx ++ G3))))) ∧ Own n h' (b :: (G1 ++ (Fy ++ (G2 ++ (Fx ++ G3))))) := by
  have hj : j < xs.length := (List.getElem?_eq_some_iff.1 hy).1
  rcases r with ⟨rfl, h1, rfl⟩ | ⟨b, off, F', cs0, rfl, rfl, h1, h2, h3, h4, h5, h6, h7⟩
  · omega
  obtain ⟨c1, cy, c2, G1, Fy, G3, rfl, rfl, q1, q2, q3⟩ := h7.split hy
  have hx' : (xs.take j)[i]? = some x := by rw [List.getElem?_take, if_pos hij]; exact hx
  obtain ⟨d1, cx, d2, H1, Fx, H2, rfl, rfl, p1, p2, p3⟩ := q1.split hx'
  have hst : (h.get b).st = 0 := (o.2 b (by simp)).2
  have hl1 := p1.length
  rw [List.length_take, List.length_take, Nat.min_eq_left (by omega)] at hl1
  have hl2 := p3.length
  rw [List.length_drop, List.length_take, Nat.min_eq_left (by omega)] at hl2
  have hlx := Cel.len p2
  have hly := Cel.len q2
  have hl7 := h7.length
  have hcl : (h.get b).cells = ((h.get b).cells.take off ++ d1) ++ (cx ++ (d2 ++ (cy ++ (c2 ++ (h.get b).cells.drop (off + xs.length * Cel.w α))))) := by
    have e1 : (h.get b).cells = (h.get b).cells.take off ++ (h.get b).cells.drop off := (List.take_append_drop _ _).symm
    have e2 : (h.get b).cells.drop off = ((h.get b).cells.drop off).take (xs.length * Cel.w α) ++ (h.get b).cells.drop (off + xs.length * Cel.w α) := by
      rw [← List.drop_drop, List.take_append_drop]
    rw [← h6] at e2
    conv => lhs; rw [e1, e2]
    simp only [List.append_assoc]
  have hoff : ((h.get b).cells.take off).length = off := by simp; omega
  have hmul : j * Cel.w α = i * Cel.w α + Cel.w α + (j - (i + 1)) * Cel.w α := by
    obtain ⟨k, rfl⟩ : ∃ k, j = i + 1 + k := ⟨j - (i + 1), by omega⟩
    rw [show i + 1 + k - (i + 1) = k by omega, Nat.add_mul, Nat.add_mul, Nat.one_mul]
  refine ⟨b, off, (h.get b).cells.take off ++ d1, cx, d2, cy, c2 ++ (h.get b).cells.drop (off + xs.length * Cel.w α), H1, Fx, H2, Fy, G3, rfl, by simp only [List.append_assoc], ?_, h1, by rw [List.length_append, hoff, hl1], by rw [List.length_append, hoff, hl1, hlx, hl2, hmul]; omega, p2, q2, ?_⟩
  · have e : h.get b = ⟨(h.get b).cells, (h.get b).es, (h.get b).st⟩ := rfl
    rw [e, h3, hst]; congr 1
  · intro h' hg kp
    have nb : ∀ c, c ∈ (H1 ++ (Fx ++ H2)) ++ (Fy ++ G3) → c ≠ b := fun c hc e => by
      subst e
      exact (List.nodup_cons.1 o.1).1 hc
    have lt := h7.lt
    have kk : ∀ c, c ∈ (H1 ++ (Fx ++ H2)) ++ (Fy ++ G3) → h'.get c = h.get c ∧ c < h'.n := fun c hc => ⟨kp.2 c (lt c hc) (by simpa using nb c hc), Nat.lt_of_lt_of_le (lt c hc) kp.1⟩
    have hs : swp xs i j = (xs.take j).take i ++ ([y] ++ ((xs.take j).drop (i + 1) ++ ([x] ++ xs.drop (j + 1)))) := by
      have e1 := get_split hy
      have e2 := get_split hx'
      have e3 : xs = (xs.take j).take i ++ x :: ((xs.take j).drop (i + 1) ++ y :: xs.drop (j + 1)) := by
        conv => lhs; rw [e1, e2]
        simp only [List.append_assoc, List.cons_append]
      have := swp_eq (A := (xs.take j).take i) (M := (xs.take j).drop (i + 1)) (B := xs.drop (j + 1)) (x := x) (y := y) (i := i) (j := j) (by simp; omega) (by simp; omega)
      rw [← e3] at this
      rw [this]; simp
    have R1 : Reps h' (swp xs i j) (d1 ++ (cy ++ (d2 ++ (cx ++ c2)))) (H1 ++ (Fy ++ (H2 ++ (Fx ++ G3)))) := by
      rw [hs]
      exact (p1.keep fun c hc => kk c (by simp [hc])).append ((reps_one (Cel.keep q2 fun c hc => kk c (by simp [hc]))).append ((p3.keep fun c hc => kk c (by simp [hc])).append ((reps_one (Cel.keep p2 fun c hc => kk c (by simp [hc]))).append (q3.keep fun c hc => kk c (by simp [hc])))))
    have hR := R1.length
    have hsl := swp_len xs i j
    have hperm : (b :: (H1 ++ (Fy ++ (H2 ++ (Fx ++ G3))))).Perm (b :: ((H1 ++ (Fx ++ H2)) ++ (Fy ++ G3))) := by
      have e1 : (H1 ++ (Fx ++ H2)) ++ (Fy ++ G3) = H1 ++ (Fx ++ (H2 ++ (Fy ++ G3))) := by simp
      rw [e1]; exact perm_two
    refine ⟨.inr ⟨b, off, _, _, by rw [hsl], rfl, Nat.lt_of_lt_of_le h1 kp.1, by simp [live, hg], by simp [hg], ?_, by rw [hsl]; exact h5, ?_, R1⟩, ?_⟩
    · rw [hg, hsl]
      have := congrArg List.length hcl
      simp only [List.length_append, hoff, hlx, hly, hl1, hl2] at this hR ⊢
      omega
    · rw [hg, hsl]
      have e : ((h.get b).cells.take off ++ d1) ++ (cy ++ (d2 ++ (cx ++ (c2 ++ (h.get b).cells.drop (off + xs.length * Cel.w α))))) = (h.get b).cells.take off ++ ((d1 ++ (cy ++ (d2 ++ (cx ++ c2)))) ++ (h.get b).cells.drop (off + xs.length * Cel.w α)) := by simp only [List.append_assoc]
      simp only [e]
      rw [List.drop_append_of_le_length (by omega), List.drop_of_length_le (by omega), List.nil_append, ← hsl, ← hR, List.take_left]
    · refine ⟨hperm.nodup_iff.2 o.1, fun c hc => ?_⟩
      have hc' := hperm.mem_iff.1 hc
      have := o.2 c hc'
      refine ⟨this.1, ?_⟩
      rcases List.mem_cons.1 hc' with e | hc'
      · subst e; rw [hg]
      · rw [(kk c hc').1]; exact this.2
end
end Go.Ab
