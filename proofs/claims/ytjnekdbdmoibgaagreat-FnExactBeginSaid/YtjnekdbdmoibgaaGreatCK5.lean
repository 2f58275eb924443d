import Derived.Test.YtjnekdbdmoibgaaGreatCK4
section
/- Stable sorts: what they make, in plain lists. -/
set_option linter.unusedSimpArgs false
set_option linter.unusedVariables false
namespace Go.Ab
open Go.RowKit

section
variable {α : Type} (key : α → Int)
def Srt (xs : List α) : Prop := xs.Pairwise fun x y => key x ≤ key y
def Stab (xs ys : List α) : Prop := ∀ v : Int, ys.filter (fun x => decide (key x = v)) = xs.filter (fun x => decide (key x = v))
end
section
variable {α : Type} {key : α → Int} {xs ys zs us vs ws : List α}
theorem Stab.refl : Stab key xs xs := fun _ => rfl
theorem Stab.trans (a : Stab key xs ys) (b : Stab key ys zs) : Stab key xs zs := fun v => (b v).trans (a v)
theorem Stab.symm (a : Stab key xs ys) : Stab key ys xs := fun v => (a v).symm
theorem Stab.app (a : Stab key xs ys) (b : Stab key us vs) : Stab key (xs ++ us) (ys ++ vs) := fun v => by
  rw [List.filter_append, List.filter_append, a v, b v]
theorem Stab.mem (a : Stab key xs ys) (x : α) : x ∈ ys ↔ x ∈ xs := by
  have e := a (key x)
  constructor
  · intro h
    have : x ∈ ys.filter (fun y => decide (key y = key x)) := List.mem_filter.2 ⟨h, by simp⟩
    rw [e] at this
    exact (List.mem_filter.1 this).1
  · intro h
    have : x ∈ xs.filter (fun y => decide (key y = key x)) := List.mem_filter.2 ⟨h, by simp⟩
    rw [← e] at this
    exact (List.mem_filter.1 this).1
theorem Srt.app (a : Srt key xs) (b : Srt key ys) (h : ∀ x ∈ xs, ∀ y ∈ ys, key x ≤ key y) : Srt key (xs ++ ys) := List.pairwise_append.2 ⟨a, b, h⟩
theorem Srt.l (a : Srt key (xs ++ ys)) : Srt key xs := (List.pairwise_append.1 a).1
theorem Srt.r (a : Srt key (xs ++ ys)) : Srt key ys := (List.pairwise_append.1 a).2.1
theorem Srt.at_ (a : Srt key xs) {i j : Nat} {x y : α} (hij : i ≤ j) (hx : xs[i]? = some x) (hy : xs[j]? = some y) : key x ≤ key y := by
  rcases Nat.lt_or_eq_of_le hij with h | h
  · have hi := (List.getElem?_eq_some_iff.1 hx)
    have hj := (List.getElem?_eq_some_iff.1 hy)
    have := List.pairwise_iff_getElem.1 a i j hi.1 hj.1 h
    rw [hi.2, hj.2] at this; exact this
  · subst h; rw [hx] at hy; cases hy; exact Int.le_refl _
end

/-! ### Two that change places -/
section
variable {α : Type}
def swp (xs : List α) (i j : Nat) : List α := match xs[i]?, xs[j]? with
  | some x, some y => (xs.set i y).set j x
  | _, _ => xs
theorem swp_len (xs : List α) (i j : Nat) : (swp xs i j).length = xs.length := by
  unfold swp; split <;> simp
theorem set_mid {A B : List α} {x y : α} {i : Nat} (hi : i = A.length) : (A ++ x :: B).set i y = A ++ y :: B := by
  subst hi; rw [List.set_append_right _ _ (Nat.le_refl _), Nat.sub_self]; rfl
theorem swp_eq {A M B : List α} {x y : α} {i j : Nat} (hi : i = A.length) (hj : j = A.length + 1 + M.length) : swp (A ++ x :: (M ++ y :: B)) i j = A ++ y :: (M ++ x :: B) := by
  have h1 : (A ++ x :: (M ++ y :: B))[i]? = some x := by rw [hi, List.getElem?_append_right (Nat.le_refl _), Nat.sub_self]; rfl
  have h2 : (A ++ x :: (M ++ y :: B))[j]? = some y := by
    have : A ++ x :: (M ++ y :: B) = (A ++ x :: M) ++ y :: B := by simp
    rw [this, List.getElem?_append_right (by simp; omega)]
    have : j - (A ++ x :: M).length = 0 := by simp; omega
    rw [this]; rfl
  unfold swp
  rw [h1, h2]
  simp only
  rw [set_mid hi]
  have : A ++ y :: (M ++ y :: B) = (A ++ y :: M) ++ y :: B := by simp
  rw [this, set_mid (by simp; omega)]
  simp
end

/-! ### The parts of a merge -/
section
variable {α : Type} {key : α → Int}
def Runs (key : α → Int) (n : Nat) (xs : List α) : Prop := ∀ c : Nat, Srt key ((xs.drop (c * n)).take n)
theorem Runs.one {n : Nat} {xs : List α} (hn : 0 < n) (h : xs.length ≤ n) (s : Srt key xs) : Runs key n xs := fun c => by
  cases c with
  | zero => rw [Nat.zero_mul, List.drop_zero, List.take_of_length_le h]; exact s
  | succ c =>
    have : n ≤ (c + 1) * n := by rw [Nat.add_mul]; omega
    rw [List.drop_of_length_le (by omega), List.take_nil]; exact List.Pairwise.nil
theorem Runs.tail {n : Nat} {xs : List α} (r : Runs key n xs) : Runs key n (xs.drop n) := fun c => by
  have := r (c + 1)
  rw [Nat.add_mul, Nat.one_mul, Nat.add_comm] at this
  rw [List.drop_drop]; exact this
theorem Runs.head {n : Nat} {xs : List α} (r : Runs key n xs) : Srt key (xs.take n) := by simpa using r 0
theorem Runs.all {n : Nat} {xs : List α} (r : Runs key n xs) (h : xs.length ≤ n) : Srt key xs := by have := r.head; rwa [List.take_of_length_le h] at this
theorem Runs.app {n k : Nat} {xs ys : List α} (h : xs.length = k * n) (r : Runs key n xs) (r' : Runs key n ys) : Runs key n (xs ++ ys) := fun c => by
  rcases Nat.lt_or_ge c k with hc | hc
  · have h1 : (c + 1) * n ≤ k * n := Nat.mul_le_mul_right _ hc
    rw [Nat.add_mul, Nat.one_mul] at h1
    rw [List.drop_append_of_le_length (by omega), List.take_append_of_le_length (by simp; omega)]
    exact r c
  · obtain ⟨d, rfl⟩ : ∃ d, c = k + d := ⟨c - k, by omega⟩
    have : (xs ++ ys).drop ((k + d) * n) = ys.drop (d * n) := by
      rw [Nat.add_mul, ← h, ← List.drop_drop, List.drop_left]
    rw [this]; exact r' d
end
end Go.Ab
end
section
/- Two elements of a slice of one's own, which change places. -/
set_option linter.unusedSimpArgs false
set_option linter.unusedVariables false
namespace Go.Ab
open Go.RowKit

theorem perm_two {b : Nat} {H1 Fx H2 Fy G3 : List Nat} : (b :: (H1 ++ (Fy ++ (H2 ++ (Fx ++ G3))))).Perm (b :: (H1 ++ (Fx ++ (H2 ++ (Fy ++ G3))))) := by
  refine List.Perm.cons _ (List.Perm.append_left _ ?_)
  have a1 : (Fy ++ (H2 ++ (Fx ++ G3))).Perm ((Fx ++ G3) ++ (Fy ++ H2)) := by
    rw [← List.append_assoc]; exact List.perm_append_comm
  have a2 : ((Fx ++ G3) ++ (Fy ++ H2)).Perm (Fx ++ (H2 ++ (Fy ++ G3))) := by
    rw [List.append_assoc]
    refine List.Perm.append_left _ ?_
    have b1 : (G3 ++ (Fy ++ H2)).Perm ((Fy ++ H2) ++ G3) := List.perm_append_comm
    refine b1.trans ?_
    rw [← List.append_assoc]
    exact List.Perm.append_right _ List.perm_append_comm
  exact a1.trans a2
section
variable {α : Type} [Cel α] {P : Program} {h : AH}
theorem SlRep.two {n : Nat} {v : AV} {xs : List α} {F : List Nat} (r : SlRep h v xs F) (o : Own n h F) {i j : Nat} {x y : α} (hij : i < j) (hx : xs[i]? = some x) (hy : xs[j]? = some y) :
    ∃ b off A cx M cy R G1 Fx G2 Fy G3, v = .sl b off xs.length ∧ F = b :: (G1 ++ (Fx ++ (G2 ++ (Fy ++ G3)))) ∧ h.get b = ⟨A ++ (cx ++ (M ++ (cy ++ R))), Cel.w α, 0⟩ ∧ b < h.n ∧ A.length = off + i * Cel.w α ∧ A.length + cx.length + M.length = off + j * Cel.w α ∧ Cel.rep h x cx Fx ∧ Cel.rep h y cy Fy ∧
    ∀ h', h'.get b = ⟨A ++ (cy ++ (M ++ (cx ++ R))), Cel.w α, 0⟩ → Kp h h' [b] → SlRep h' v (swp xs i j) (b :: (G1 ++ (Fy ++ (G2 ++ (Fx ++ G3))))) ∧ Own n h' (b :: (G1 ++ (Fy ++ (G2 ++ (Fx ++ G3))))) := by
  have hj : j < xs.length := (List.getElem?_eq_some_iff.1 hy).1
  rcases r with ⟨rfl, h1, rfl⟩ | ⟨b, off, F', cs0, rfl, rfl, h1, h2, h3, h4, h5, h6, h7⟩
  · omega
  obtain ⟨c1, cy, c2, G1, Fy, G3, rfl, rfl, q1, q2, q3⟩ := h7.split hy
  have hx' : (xs.take j)[i]? = some x := by rw [List.getElem?_take, if_pos hij]; exact hx
  obtain ⟨d1, cx, d2, H1, Fx, H2, rfl, rfl, p1, p2, p3⟩ := q1.split hx'
  have hst : (h.get b).st = 0 := (o.2 b (by simp)).2
  have hl1 := p1.length
  rw [List.length_take, List.length_take, Nat.min_eq_left (by omega)] at hl1
  have hl2 := p3.length
  rw [List.length_drop, List.length_take, Nat.min_eq_left (by omega)] at hl2
  have hlx := Cel.len p2
  have hly := Cel.len q2
  have hl7 := h7.length
  have hcl : (h.get b).cells = ((h.get b).cells.take off ++ d1) ++ (cx ++ (d2 ++ (cy ++ (c2 ++ (h.get b).cells.drop (off + xs.length * Cel.w α))))) := by
    have e1 : (h.get b).cells = (h.get b).cells.take off ++ (h.get b).cells.drop off := (List.take_append_drop _ _).symm
    have e2 : (h.get b).cells.drop off = ((h.get b).cells.drop off).take (xs.length * Cel.w α) ++ (h.get b).cells.drop (off + xs.length * Cel.w α) := by
      rw [← List.drop_drop, List.take_append_drop]
    rw [← h6] at e2
    conv => lhs; rw [e1, e2]
    simp only [List.append_assoc]
  have hoff : ((h.get b).cells.take off).length = off := by simp; omega
  have hmul : j * Cel.w α = i * Cel.w α + Cel.w α + (j - (i + 1)) * Cel.w α := by
    obtain ⟨k, rfl⟩ : ∃ k, j = i + 1 + k := ⟨j - (i + 1), by omega⟩
    rw [show i + 1 + k - (i + 1) = k by omega, Nat.add_mul, Nat.add_mul, Nat.one_mul]
  refine ⟨b, off, (h.get b).cells.take off ++ d1, cx, d2, cy, c2 ++ (h.get b).cells.drop (off + xs.length * Cel.w α), H1, Fx, H2, Fy, G3, rfl, by simp only [List.append_assoc], ?_, h1, by rw [List.length_append, hoff, hl1], by rw [List.length_append, hoff, hl1, hlx, hl2, hmul]; omega, p2, q2, ?_⟩
  · have e : h.get b = ⟨(h.get b).cells, (h.get b).es, (h.get b).st⟩ := rfl
    rw [e, h3, hst]; congr 1
  · intro h' hg kp
    have nb : ∀ c, c ∈ (H1 ++ (Fx ++ H2)) ++ (Fy ++ G3) → c ≠ b := fun c hc e => by
      subst e
      exact (List.nodup_cons.1 o.1).1 hc
    have lt := h7.lt
    have kk : ∀ c, c ∈ (H1 ++ (Fx ++ H2)) ++ (Fy ++ G3) → h'.get c = h.get c ∧ c < h'.n := fun c hc => ⟨kp.2 c (lt c hc) (by simpa using nb c hc), Nat.lt_of_lt_of_le (lt c hc) kp.1⟩
    have hs : swp xs i j = (xs.take j).take i ++ ([y] ++ ((xs.take j).drop (i + 1) ++ ([x] ++ xs.drop (j + 1)))) := by
      have e1 := get_split hy
      have e2 := get_split hx'
      have e3 : xs = (xs.take j).take i ++ x :: ((xs.take j).drop (i + 1) ++ y :: xs.drop (j + 1)) := by
        conv => lhs; rw [e1, e2]
        simp only [List.append_assoc, List.cons_append]
      have := swp_eq (A := (xs.take j).take i) (M := (xs.take j).drop (i + 1)) (B := xs.drop (j + 1)) (x := x) (y := y) (i := i) (j := j) (by simp; omega) (by simp; omega)
      rw [← e3] at this
      rw [this]; simp
    have R1 : Reps h' (swp xs i j) (d1 ++ (cy ++ (d2 ++ (cx ++ c2)))) (H1 ++ (Fy ++ (H2 ++ (Fx ++ G3)))) := by
      rw [hs]
      exact (p1.keep fun c hc => kk c (by simp [hc])).append ((reps_one (Cel.keep q2 fun c hc => kk c (by simp [hc]))).append ((p3.keep fun c hc => kk c (by simp [hc])).append ((reps_one (Cel.keep p2 fun c hc => kk c (by simp [hc]))).append (q3.keep fun c hc => kk c (by simp [hc])))))
    have hR := R1.length
    have hsl := swp_len xs i j
    have hperm : (b :: (H1 ++ (Fy ++ (H2 ++ (Fx ++ G3))))).Perm (b :: ((H1 ++ (Fx ++ H2)) ++ (Fy ++ G3))) := by
      have e1 : (H1 ++ (Fx ++ H2)) ++ (Fy ++ G3) = H1 ++ (Fx ++ (H2 ++ (Fy ++ G3))) := by simp
      rw [e1]; exact perm_two
    refine ⟨.inr ⟨b, off, _, _, by rw [hsl], rfl, Nat.lt_of_lt_of_le h1 kp.1, by simp [live, hg], by simp [hg], ?_, by rw [hsl]; exact h5, ?_, R1⟩, ?_⟩
    · rw [hg, hsl]
      have := congrArg List.length hcl
      simp only [List.length_append, hoff, hlx, hly, hl1, hl2] at this hR ⊢
      omega
    · rw [hg, hsl]
      have e : ((h.get b).cells.take off ++ d1) ++ (cy ++ (d2 ++ (cx ++ (c2 ++ (h.get b).cells.drop (off + xs.length * Cel.w α))))) = (h.get b).cells.take off ++ ((d1 ++ (cy ++ (d2 ++ (cx ++ c2)))) ++ (h.get b).cells.drop (off + xs.length * Cel.w α)) := by simp only [List.append_assoc]
      simp only [e]
      rw [List.drop_append_of_le_length (by omega), List.drop_of_length_le (by omega), List.nil_append, ← hsl, ← hR, List.take_left]
    · refine ⟨hperm.nodup_iff.2 o.1, fun c hc => ?_⟩
      have hc' := hperm.mem_iff.1 hc
      have := o.2 c hc'
      refine ⟨this.1, ?_⟩
      rcases List.mem_cons.1 hc' with e | hc'
      · subst e; rw [hg]
      · rw [(kk c hc').1]; exact this.2
end
end Go.Ab
end
section
/- A world behind a pointer. Written by mkw.py. -/
set_option linter.unusedSimpArgs false
set_option linter.unusedVariables false
namespace Go.Ab
open Go.RowKit

structure WSep (n : Nat) (h : AH) (b : Nat) (L : List (List Nat)) : Prop where
  own : ∀ (i : Nat) (G : List Nat), L[i]? = some G → OwnL n h G ∧ b ∉ G
  dis : ∀ (i j : Nat) (G H : List Nat), i ≠ j → L[i]? = some G → L[j]? = some H → ∀ c ∈ G, c ∉ H
section
variable {n b : Nat} {h h' : AH} {L : List (List Nat)}
theorem get_set' {i j : Nat} {f G : List Nat} (e : (L.set i f)[j]? = some G) : (j = i ∧ G = f) ∨ (j ≠ i ∧ L[j]? = some G) := by
  rw [List.getElem?_set] at e
  split at e
  · rename_i hij
    split at e
    · cases e; exact .inl ⟨hij.symm, rfl⟩
    · cases e
  · rename_i hij; exact .inr ⟨fun e => hij e.symm, e⟩
theorem WSep.set (s : WSep n h b L) {i : Nat} {F f : List Nat} (hF : L[i]? = some F) (k : Kp h h' (b :: F)) (o : OwnL n h' f) (hb : b ∉ f) (fr : ∀ c ∈ f, c ∈ F ∨ h.n ≤ c) : WSep n h' b (L.set i f) := by
  have dj : ∀ (j : Nat) (G : List Nat), j ≠ i → L[j]? = some G → ∀ c ∈ f, c ∉ G := fun j G hj hG c hc hc' => by
    rcases fr c hc with h1 | h1
    · exact s.dis i j F G (fun e => hj e.symm) hF hG c h1 hc'
    · have := (s.own j G hG).1.2 c hc'; omega
  refine ⟨fun j G hG => ?_, fun j l G H hjl hG hH => ?_⟩
  · rcases get_set' hG with ⟨_, rfl⟩ | ⟨hj, hG⟩
    · exact ⟨o, hb⟩
    · have := s.own j G hG
      refine ⟨ol_kp1 k this.1 fun c hc hX => ?_, this.2⟩
      rcases List.mem_cons.1 hX with e | e
      · subst e; exact this.2 hc
      · exact s.dis j i G F hj hG hF c hc e
  · rcases get_set' hG with ⟨a1, a2⟩ | ⟨hj, hG2⟩ <;> rcases get_set' hH with ⟨b1, b2⟩ | ⟨hl, hH2⟩
    · exact absurd (a1.trans b1.symm) hjl
    · rw [a2]; exact dj l H hl hH2
    · rw [b2]; exact fun c hc hc' => dj j G hj hG2 c hc' hc
    · exact s.dis j l G H hjl hG2 hH2
theorem WSep.keep (s : WSep n h b L) (k : Kp h h' [b]) : WSep n h' b L :=
  ⟨fun j G hG => by
    have := s.own j G hG
    exact ⟨ol_kp1 k this.1 fun c hc hX => this.2 (List.mem_singleton.1 hX ▸ hc), this.2⟩, s.dis⟩
theorem WSep.ext (s : WSep n h b L) (e : Ext h h') : WSep n h' b L :=
  ⟨fun j G hG => ⟨ol_ext1 e (s.own j G hG).1, (s.own j G hG).2⟩, s.dis⟩
end
structure WV where
  v0 : AV
  v1 : AV
  v2 : AV
  v3 : AV
  v4 : AV
  v5 : AV
  v6 : AV
  v7 : AV
  v8 : AV
  v9 : AV
  v10 : AV
structure WF where
  f0 : List Nat
  f1 : List Nat
  f2 : List Nat
  f3 : List Nat
  f4 : List Nat
  f5 : List Nat
  f6 : List Nat
  f7 : List Nat
  f8 : List Nat
  f9 : List Nat
  f10 : List Nat
def WF.l (F : WF) : List (List Nat) := [F.f0, F.f1, F.f2, F.f3, F.f4, F.f5, F.f6, F.f7, F.f8, F.f9, F.f10]
abbrev Wld.cv (x : Wld) (V : WV) : List AV := x.cs V.v0 V.v1 V.v2 V.v3 V.v4 V.v5 V.v6 V.v7 V.v8 V.v9 V.v10
structure PW (n : Nat) (h : AH) (b : Nat) (x : Wld) (V : WV) (F : WF) : Prop where
  bk : Bk h b (x.cv V) 0
  nb : n ≤ b
  sep : WSep n h b F.l
  r0 : SlRep h V.v0 x.c.rule.l F.f0
  r1 : SlRep h V.v1 x.st F.f1
  r2 : SlRep h V.v2 x.cache F.f2
  r3 : SlRep h V.v3 x.w.near F.f3
  r4 : SlRep h V.v4 x.w.far F.f4
  r5 : SlRep h V.v5 x.w.rest F.f5
  r6 : SlRep h V.v6 x.due F.f6
  r7 : SlRep h V.v7 x.queue F.f7
  r8 : SlRep h V.v8 x.out F.f8
  r9 : SlRep h V.v9 x.tasks F.f9
  r10 : SlRep h V.v10 x.deeds F.f10
section
variable {n b : Nat} {h h' : AH} {x : Wld} {V : WV} {F : WF}
theorem PW.o0 (w : PW n h b x V F) : Own n h F.f0 := (w.sep.own 0 _ rfl).1.1
theorem PW.l0 (w : PW n h b x V F) : OwnL n h F.f0 := (w.sep.own 0 _ rfl).1
theorem PW.n0 (w : PW n h b x V F) : b ∉ F.f0 := (w.sep.own 0 _ rfl).2
theorem PW.o1 (w : PW n h b x V F) : Own n h F.f1 := (w.sep.own 1 _ rfl).1.1
theorem PW.l1 (w : PW n h b x V F) : OwnL n h F.f1 := (w.sep.own 1 _ rfl).1
theorem PW.n1 (w : PW n h b x V F) : b ∉ F.f1 := (w.sep.own 1 _ rfl).2
theorem PW.o2 (w : PW n h b x V F) : Own n h F.f2 := (w.sep.own 2 _ rfl).1.1
theorem PW.l2 (w : PW n h b x V F) : OwnL n h F.f2 := (w.sep.own 2 _ rfl).1
theorem PW.n2 (w : PW n h b x V F) : b ∉ F.f2 := (w.sep.own 2 _ rfl).2
theorem PW.o3 (w : PW n h b x V F) : Own n h F.f3 := (w.sep.own 3 _ rfl).1.1
theorem PW.l3 (w : PW n h b x V F) : OwnL n h F.f3 := (w.sep.own 3 _ rfl).1
theorem PW.n3 (w : PW n h b x V F) : b ∉ F.f3 := (w.sep.own 3 _ rfl).2
theorem PW.o4 (w : PW n h b x V F) : Own n h F.f4 := (w.sep.own 4 _ rfl).1.1
theorem PW.l4 (w : PW n h b x V F) : OwnL n h F.f4 := (w.sep.own 4 _ rfl).1
theorem PW.n4 (w : PW n h b x V F) : b ∉ F.f4 := (w.sep.own 4 _ rfl).2
theorem PW.o5 (w : PW n h b x V F) : Own n h F.f5 := (w.sep.own 5 _ rfl).1.1
theorem PW.l5 (w : PW n h b x V F) : OwnL n h F.f5 := (w.sep.own 5 _ rfl).1
theorem PW.n5 (w : PW n h b x V F) : b ∉ F.f5 := (w.sep.own 5 _ rfl).2
theorem PW.o6 (w : PW n h b x V F) : Own n h F.f6 := (w.sep.own 6 _ rfl).1.1
theorem PW.l6 (w : PW n h b x V F) : OwnL n h F.f6 := (w.sep.own 6 _ rfl).1
theorem PW.n6 (w : PW n h b x V F) : b ∉ F.f6 := (w.sep.own 6 _ rfl).2
theorem PW.o7 (w : PW n h b x V F) : Own n h F.f7 := (w.sep.own 7 _ rfl).1.1
theorem PW.n7 (w : PW n h b x V F) : b ∉ F.f7 := (w.sep.own 7 _ rfl).2
theorem PW.o8 (w : PW n h b x V F) : Own n h F.f8 := (w.sep.own 8 _ rfl).1.1
theorem PW.l8 (w : PW n h b x V F) : OwnL n h F.f8 := (w.sep.own 8 _ rfl).1
theorem PW.n8 (w : PW n h b x V F) : b ∉ F.f8 := (w.sep.own 8 _ rfl).2
theorem PW.o9 (w : PW n h b x V F) : Own n h F.f9 := (w.sep.own 9 _ rfl).1.1
theorem PW.l9 (w : PW n h b x V F) : OwnL n h F.f9 := (w.sep.own 9 _ rfl).1
theorem PW.n9 (w : PW n h b x V F) : b ∉ F.f9 := (w.sep.own 9 _ rfl).2
theorem PW.o10 (w : PW n h b x V F) : Own n h F.f10 := (w.sep.own 10 _ rfl).1.1
theorem PW.l10 (w : PW n h b x V F) : OwnL n h F.f10 := (w.sep.own 10 _ rfl).1
theorem PW.n10 (w : PW n h b x V F) : b ∉ F.f10 := (w.sep.own 10 _ rfl).2
theorem PW.ext (w : PW n h b x V F) (e : Ext h h') : PW n h' b x V F := ⟨bk_ext1 e w.bk, w.nb, w.sep.ext e, w.r0.ext e, w.r1.ext e, w.r2.ext e, w.r3.ext e, w.r4.ext e, w.r5.ext e, w.r6.ext e, w.r7.ext e, w.r8.ext e, w.r9.ext e, w.r10.ext e⟩
theorem PW.put (w : PW n h b x V F) {x' : Wld} (bk : Bk h' b (x'.cv V) 0) (k : Kp h h' [b]) (e0 : x'.c.rule.l = x.c.rule.l := by rfl) (e1 : x'.st = x.st := by rfl) (e2 : x'.cache = x.cache := by rfl) (e3 : x'.w.near = x.w.near := by rfl) (e4 : x'.w.far = x.w.far := by rfl) (e5 : x'.w.rest = x.w.rest := by rfl) (e6 : x'.due = x.due := by rfl) (e7 : x'.queue = x.queue := by rfl) (e8 : x'.out = x.out := by rfl) (e9 : x'.tasks = x.tasks := by rfl) (e10 : x'.deeds = x.deeds := by rfl) : PW n h' b x' V F :=
  ⟨bk, w.nb, w.sep.keep k, by rw [e0]; exact slr_kp1 k w.r0 fun c hc hX => w.n0 (List.mem_singleton.1 hX ▸ hc), by rw [e1]; exact slr_kp1 k w.r1 fun c hc hX => w.n1 (List.mem_singleton.1 hX ▸ hc), by rw [e2]; exact slr_kp1 k w.r2 fun c hc hX => w.n2 (List.mem_singleton.1 hX ▸ hc), by rw [e3]; exact slr_kp1 k w.r3 fun c hc hX => w.n3 (List.mem_singleton.1 hX ▸ hc), by rw [e4]; exact slr_kp1 k w.r4 fun c hc hX => w.n4 (List.mem_singleton.1 hX ▸ hc), by rw [e5]; exact slr_kp1 k w.r5 fun c hc hX => w.n5 (List.mem_singleton.1 hX ▸ hc), by rw [e6]; exact slr_kp1 k w.r6 fun c hc hX => w.n6 (List.mem_singleton.1 hX ▸ hc), by rw [e7]; exact slr_kp1 k w.r7 fun c hc hX => w.n7 (List.mem_singleton.1 hX ▸ hc), by rw [e8]; exact slr_kp1 k w.r8 fun c hc hX => w.n8 (List.mem_singleton.1 hX ▸ hc), by rw [e9]; exact slr_kp1 k w.r9 fun c hc hX => w.n9 (List.mem_singleton.1 hX ▸ hc), by rw [e10]; exact slr_kp1 k w.r10 fun c hc hX => w.n10 (List.mem_singleton.1 hX ▸ hc)⟩
end
section
variable {a b c : AH} {X G : List Nat}
theorem Kp.new (k : Kp a b X) (k' : Kp b c G) (hG : ∀ x ∈ G, a.n ≤ x) : Kp a c X := ⟨Nat.le_trans k.1 k'.1, fun x hx hX => (k'.2 x (Nat.lt_of_lt_of_le hx k.1) fun hg => by have := hG x hg; omega).trans (k.2 x hx hX)⟩
theorem Kp.updX (k : Kp a b X) {i : Nat} (hi : i ∈ X) (kk : Blk) : Kp a (b.upd i kk) X := ⟨k.1, fun x hx hX => by
  have : x ≠ i := fun e => hX (e ▸ hi)
  simp only [upd_get, this, if_false]; exact k.2 x hx hX⟩
theorem Kp.push (k : Kp a b X) (kk : Blk) : Kp a (b.push kk) X := ⟨Nat.le_trans k.1 (Nat.le_succ _), fun x hx hX => by
  have : x ≠ b.n := by have := k.1; omega
  simp only [push_get, this, if_false]; exact k.2 x hx hX⟩
end
section
variable {P : Program} {h : AH} {Q : Nat → List AV → AH → Prop} {p : Prog}
theorem g_chkb {es n : Nat} {z : List AV} {ps : List (Nat × Nat × AV)} {v : AV} (x : (Prog.chk (.bslice es n z ps) v p).awp P h Q) : (Prog.chk (.bslice es n z ps) v p).awp P h Q := x
theorem w_chkb {b es n : Nat} {z cs : List AV} {ps : List (Nat × Nat × AV)} (a : Bk h b cs es) (hc : afill z ps = some cs) (h1 : n * es ≤ 16777216) (h2 : cs.length = n * es) (hk : p.awp P h Q) : (Prog.chk (.bslice es n z ps) (.sl b 0 n) p).awp P h Q := by
  refine aw_chk ?_ hk
  simp only [AOp.still, hc]
  exact ⟨trivial, h1, h2, by rw [a.2], by rw [a.2], by rw [a.2]⟩
end
section
variable {α : Type} [Cel α] {P : Program} {h h' : AH} {Q : Nat → List AV → AH → Prop} {k : AV → Prog} {p : Prog}
/-! ### Values whose cells are not told -/
theorem g_stv {n : Nat} {a x : AV} (y : (Prog.op (.st n a x) k).awp P h Q) : (Prog.op (.st n a x) k).awp P h Q := y
theorem g_ldv {n : Nat} {a : AV} (y : (Prog.op (.ldn n a) k).awp P h Q) : (Prog.op (.ldn n a) k).awp P h Q := y
theorem g_ckv {n : Nat} {a v : AV} (y : (Prog.chk (.ldn n a) v p).awp P h Q) : (Prog.chk (.ldn n a) v p).awp P h Q := y
theorem aw_stv {n : Nat} {zero cs : List AV} (hl : cs.length = n) (hz : zero.length = n) (hk : (k (.tup [])).awp P (h.push ⟨cs, 0, 0⟩) Q) : (Prog.op (.st n (.ptr h.n 0) (.agg cs)) k).awp P (h.push ⟨zero, 0, 0⟩) Q := by
  refine aw_st_0 rfl hl (by omega) ?_
  rw [splice_all (by omega)]; exact hk
theorem aw_ldv {n b : Nat} {cs : List AV} (a : Bk h b cs 0) (hl : cs.length = n) (h0 : 0 < n) (hk : (k (.agg cs)).awp P h Q) : (Prog.op (.ldn n (.ptr b 0)) k).awp P h Q :=
  aw_ldn_at (at_bk a) (Ext.refl _) h0 (List.take_of_length_le (by omega)) hl hk
theorem aw_ckv {n b : Nat} {cs : List AV} (a : Bk h b cs 0) (hl : cs.length = n) (h0 : 0 < n) (hk : p.awp P h Q) : (Prog.chk (.ldn n (.ptr b 0)) (.agg cs) p).awp P h Q := by
  refine aw_chk ?_ hk
  show live h b ∧ 0 + n ≤ (h.get b).cells.length ∧ ((AV.agg (((h.get b).cells.drop 0).take n)) = .agg cs ∧ h = h)
  refine ⟨by simp [live, a.2], by rw [a.2]; simp; omega, ?_, rfl⟩
  rw [a.2]; simp only [List.drop_zero]; rw [List.take_of_length_le (by omega)]
theorem rep_kp {x : α} {cs : List AV} {F X : List Nat} (k : Kp h h' X) (r : Cel.rep h x cs F) (d : ∀ c ∈ F, c ∉ X) : Cel.rep h' x cs F :=
  Cel.keep r fun c hc => ⟨k.2 c (Cel.lt r c hc) (d c hc), Nat.lt_of_lt_of_le (Cel.lt r c hc) k.1⟩
end
end Go.Ab
end
section
/- Stable sorts: what the library's functions leave in a slice of one's own. -/
set_option linter.unusedSimpArgs false
set_option linter.unusedVariables false
namespace Go.Ab
open Go.RowKit

section
variable {P : Program} {h : AH} {Q : Nat → List AV → AH → Prop} {k : AV → Prog}
end

class SEl (α : Type) [Cel α] where
  lo : AV → AOp
  v : List AV → AV
  ld : ∀ {P : Program} {h h0 : AH} {b o : Nat} {x : α} {cs : List AV} {F : List Nat} {k : AV → Prog} {Q : Nat → List AV → AH → Prop}, At h b o cs → Cel.rep h0 x cs F → (k (v cs)).awp P h Q → (Prog.op (lo (.ptr b o)) k).awp P h Q
  vc : ∀ {h : AH} {x : α} {cs : List AV} {F : List Nat}, Cel.rep h x cs F → (v cs).cells? = some cs
instance : SEl Int where
  lo := .ld1
  v := fun cs => cs.headD .un
  ld := by
    intro P h h0 b o x cs F k Q a r hk
    obtain ⟨rfl, _⟩ := r
    exact aw_ld1_at a (Ext.refl _) hk
  vc := by
    intro h x cs F r
    obtain ⟨rfl, _⟩ := r
    rfl
instance : SEl Trail where
  lo := .ldn 4
  v := .agg
  ld := by
    intro P h h0 b o x cs F k Q a r hk
    have hl : cs.length = 4 := Cel.len r
    exact aw_ldn_at a (Ext.refl _) (by decide) (List.take_of_length_le (by omega)) hl hk
  vc := fun _ => rfl
def cmpI (a b : Int) : Int := if a < b then -1 else if b < a then 1 else 0
section
variable {α : Type} [Cel α] {P : Program} {h h' : AH} {n : Nat}
def MutR (n : Nat) (h : AH) (v : AV) (F : List Nat) (ys : List α) (h' : AH) : Prop := Kp h h' F ∧ ∃ F', F'.Perm F ∧ SlRep h' v ys F' ∧ Own n h' F'
theorem MutR.refl {v : AV} {F : List Nat} {xs : List α} (r : SlRep h v xs F) (o : Own n h F) : MutR n h v F xs h := ⟨Kp.refl _ _, F, List.Perm.refl _, r, o⟩
theorem MutR.trans {h1 h2 : AH} {v : AV} {F F' : List Nat} {ys : List α} (k : Kp h h1 F) (p : F'.Perm F) (m : MutR n h1 v F' ys h2) : MutR n h v F ys h2 := by
  obtain ⟨k2, F2, p2, r2, o2⟩ := m
  exact ⟨k.trans ⟨k2.1, fun b hb hX => k2.2 b hb fun hm => hX (p.mem_iff.1 hm)⟩, F2, p2.trans p, r2, o2⟩
end
section
variable {α : Type} [Cel α] [SEl α] {P : Program} {h h' : AH} {Q : Nat → List AV → AH → Prop} {n : Nat}

def CmpOk (P : Program) (key : α → Int) (U : α → Prop) (h0 : AH) (F : List Nat) (c : AV) : Prop :=
  ∃ f caps, c = .fn f caps ∧ ∀ h', Kp h0 h' F → ∀ (x y : α) (cx cy : List AV) (Fx Fy : List Nat), U x → U y → Cel.rep h' x cx Fx → Cel.rep h' y cy Fy → RCalls P f ([SEl.v α cx, SEl.v α cy] ++ caps) h' (.int .i64 (cmpI (key x) (key y)))
theorem CmpOk.kp {key : α → Int} {U : α → Prop} {F F' : List Nat} {c : AV} (o : CmpOk P key U h F c) (k : Kp h h' F) (p : F'.Perm F) : CmpOk P key U h' F' c := by
  obtain ⟨f, caps, rfl, hc⟩ := o
  exact ⟨f, caps, rfl, fun h2 k2 => hc h2 (k.trans ⟨k2.1, fun b hb hX => k2.2 b hb fun hm => hX (p.mem_iff.1 hm)⟩)⟩
end

section
variable {α : Type} [Cel α] [SEl α] {P : Program} {n : Nat} {key : α → Int} {U0 : α → Prop}
end
section
variable {α : Type} [Cel α] {P : Program} {n : Nat}
end
section
variable {α : Type} [Cel α] [SEl α] {P : Program} {n : Nat} {key : α → Int} {U0 : α → Prop}
end
end Go.Ab
end
section
/- Stable sorts: merges, and the whole. -/
set_option linter.unusedSimpArgs false
set_option linter.unusedVariables false
namespace Go.Ab
open Go.RowKit

section
variable {α : Type} [Cel α] [SEl α] {P : Program} {n : Nat} {key : α → Int} {U0 : α → Prop}
end
end Go.Ab
end
section
/- Stable sorts: merges, and the whole. -/
set_option linter.unusedSimpArgs false
set_option linter.unusedVariables false
namespace Go.Ab
open Go.RowKit

section
variable {α : Type} [Cel α] [SEl α] {P : Program} {n : Nat} {key : α → Int} {U0 : α → Prop}
end
end Go.Ab
end
section
/- Stable sorts: the whole. -/
set_option linter.unusedSimpArgs false
set_option linter.unusedVariables false
namespace Go.Ab
open Go.RowKit

section
variable {α : Type} [Cel α] [SEl α] {P : Program} {n : Nat} {key : α → Int} {U0 : α → Prop}
end
end Go.Ab
end
section
/- A value is put between the parts of a slice of one's own: a new slice. -/
set_option linter.unusedSimpArgs false
set_option linter.unusedVariables false
namespace Go.Ab
open Go.RowKit

section
variable {α : Type} [Cel α] {P : Program} {h : AH} {Q : Nat → List AV → AH → Prop} {k : AV → Prog} {n : Nat}
theorem SlRep.cut {v : AV} {xs : List α} {F : List Nat} (r : SlRep h v xs F) (o : Own n h F) {k : Nat} (hk : k ≤ xs.length) :
    ∃ u1 u2 B E1 E2, F = B ++ (E1 ++ E2) ∧ SlRep h u1 (xs.take k) (B ++ E1) ∧ (B ++ E1).tail = E1 ∧ SlRep h u2 (xs.drop k) (B ++ E2) ∧ (B ++ E2).tail = E2 ∧
      (∀ (h2 : AH) (K : AV → AH → Prop), (∀ c ∈ B, h2.get c = h.get c) → K u1 h2 → AOp.go P (.slc (Cel.w α) v none (some (.int .i64 (k : Int))) none) h2 K) ∧
      (∀ (h2 : AH) (K : AV → AH → Prop), (∀ c ∈ B, h2.get c = h.get c) → K u2 h2 → AOp.go P (.slc (Cel.w α) v (some (.int .i64 (k : Int))) none none) h2 K) := by
  rcases r with ⟨rfl, h1, rfl⟩ | ⟨b, off, F', cs, rfl, rfl, h1, h2, h3, h4, h5, h6, h7⟩
  · have hx : xs = [] := List.length_eq_zero_iff.1 h1
    subst hx
    have hk0 : k = 0 := by simpa using hk
    subst hk0
    refine ⟨.nils, .nils, [], [], [], rfl, SlRep.nils, rfl, SlRep.nils, rfl, fun h2 K _ hK => ?_, fun h2 K _ hK => ?_⟩
    · simp only [AOp.go, bnd, asInt?]
      exact ⟨by first | trivial | rfl, by first | trivial | rfl, by first | trivial | rfl, hK⟩
    · simp only [AOp.go, bnd, asInt?]
      exact ⟨by first | trivial | rfl, by first | trivial | rfl, by first | trivial | rfl, hK⟩
  · have hsp : xs = xs.take k ++ xs.drop k := (List.take_append_drop _ _).symm
    have h7' := h7
    rw [hsp] at h7'
    obtain ⟨c1, c2, E1, E2, e1, rfl, q1, q2⟩ := h7'.app_split
    have l1 := q1.length
    have l2 := q2.length
    rw [List.length_take, Nat.min_eq_left hk] at l1
    rw [List.length_drop] at l2
    have hst : (h.get b).st = 0 := (o.2 b (by simp)).2
    have hw := Cel.pos (α := α)
    have hmul : xs.length * Cel.w α = k * Cel.w α + (xs.length - k) * Cel.w α := by rw [← Nat.add_mul]; congr 1; omega
    have ec := h6
    rw [e1] at ec
    have t1 : c1 = ((h.get b).cells.drop off).take (k * Cel.w α) := by
      have := congrArg (List.take (k * Cel.w α)) ec
      rw [List.take_append_of_le_length (by omega), List.take_of_length_le (by omega), List.take_take, Nat.min_eq_left (by omega)] at this
      exact this
    have t2 : c2 = ((h.get b).cells.drop (off + k * Cel.w α)).take ((xs.length - k) * Cel.w α) := by
      have := congrArg (List.drop (k * Cel.w α)) ec
      rw [List.drop_append_of_le_length (by omega), List.drop_of_length_le (by omega), List.nil_append, List.drop_take, List.drop_drop] at this
      rw [this]; congr 1; omega
    refine ⟨.sl b off k, .sl b (off + k * Cel.w α) (xs.length - k), [b], E1, E2, rfl, .inr ⟨b, off, E1, c1, by rw [List.length_take, Nat.min_eq_left hk], rfl, h1, h2, h3, ?_, ?_, ?_, q1⟩, rfl, .inr ⟨b, off + k * Cel.w α, E2, c2, by rw [List.length_drop], rfl, h1, h2, h3, ?_, ?_, ?_, q2⟩, rfl, fun h2 K hb hK => ?_, fun h2 K hb hK => ?_⟩
    · rw [List.length_take, Nat.min_eq_left hk]; omega
    · rw [List.length_take, Nat.min_eq_left hk]; omega
    · rw [List.length_take, Nat.min_eq_left hk]; exact t1
    · rw [List.length_drop]; omega
    · rw [List.length_drop]; omega
    · rw [List.length_drop]; exact t2
    · have hb := hb b (by simp)
      simp only [AOp.go, bnd, asInt?]
      have hle : k * Cel.w α ≤ xs.length * Cel.w α := Nat.mul_le_mul_right _ hk
      refine ⟨by omega, by rw [hb]; exact h3, by unfold mine; rw [hb]; exact hst, by rw [hb]; exact h4, Int.le_refl _, Int.natCast_nonneg _, by rw [hb]; simp; omega, ?_⟩
      simpa using hK
    · have hb := hb b (by simp)
      simp only [AOp.go, bnd, asInt?]
      refine ⟨by omega, by rw [hb]; exact h3, by unfold mine; rw [hb]; exact hst, by rw [hb]; exact h4, Int.natCast_nonneg _, by omega, by rw [hb]; simpa using h4, ?_⟩
      have : ((xs.length : Int) - (k : Int)).toNat = xs.length - k := by omega
      simpa [this] using hK
theorem aw_go {o : AOp} (g : o.go P h fun v h' => (k v).awp P h' Q) : (Prog.op o k).awp P h Q := g

end
end Go.Ab
end
section
/- Bytes, and a cursor over them, from which values are drawn. -/
set_option linter.unusedSimpArgs false
set_option linter.unusedVariables false
namespace Go.Ab
open Go.RowKit Go.ChangeShapes

instance : Cel UInt8 where
  w := 1
  ok := fun _ => True
  rep := fun h x cs F => cs = [.int .u8 (x.toNat : Int)] ∧ F = []
  pos := by decide
  len := by rintro h x cs F ⟨rfl, rfl⟩; rfl
  lt := by rintro h x cs F ⟨rfl, rfl⟩; simp
  keep := by rintro h h' x cs F r _; exact r

section
variable {P : Program}
end

section
variable {P : Program} {h : AH} {Q : Nat → List AV → AH → Prop} {k : AV → Prog}
theorem aw_nilck {b o : Nat} (hk : (k (.ptr b o)).awp P h Q) : (Prog.op (.nilck (.ptr b o)) k).awp P h Q := hk
end

section
variable {P : Program} {h : AH} {Q : Nat → List AV → AH → Prop}
end

def Cur (h : AH) (c : Nat) : Prop := ∃ (l : List UInt8) (vb : AV) (F : List Nat) (i z : Int), Bk h c [vb, .int .i64 i, .int .i64 z] 0 ∧ SlRep h vb l F ∧ (∀ b ∈ F, b < c) ∧ 0 ≤ i ∧ i ≤ l.length
section
variable {g h h' : AH} {c b : Nat} {k : Blk} {X : List Nat}
theorem Cur.lt (a : Cur h c) : c < h.n := by obtain ⟨l, vb, F, i, z, b, _⟩ := a; exact b.1
theorem kp_upd1 (hb : g.n ≤ b) (e : Kp g h X) : Kp g (h.upd b k) X := by
  refine ⟨e.1, fun x hx hX => ?_⟩
  have : x ≠ b := by omega
  rw [← e.2 x hx hX]
  simp [this]
theorem kp_step (e' : Kp h h' X) (e : Kp g h X) : Kp g h' X := e.trans e'
theorem kp_stepe (e' : Ext h h') (e : Kp g h X) : Kp g h' X := e.trans_ext e'
theorem kp_stepN {Y : List Nat} (e' : Kp h h' Y) (e : Kp g h X) (hY : ∀ x ∈ Y, g.n ≤ x) : Kp g h' X := e.new e' hY
end
theorem kp_auto {g h : AH} {X : List Nat} (a : Kp g h X := by (repeat (first | assumption | with_reducible exact Kp.refl _ _ | with_reducible apply Kp.push | ((with_reducible apply kp_upd1); exact om_auto) | ((with_reducible apply kp_step); assumption) | ((with_reducible apply kp_stepe); assumption) | ((with_reducible apply kp_stepN); assumption) | exact low_own (by assumption) om_auto | exact om_auto))) : Kp g h X := a
end Go.Ab
end
section
/- An element of a slice of one's own, under change. -/
set_option linter.unusedSimpArgs false
set_option linter.unusedVariables false
namespace Go.Ab
open Go.RowKit

structure Elt (α : Type) [Cel α] (n : Nat) (h : AH) (b o : Nat) (E : List AV) (v : AV) (xs : List α) (i : Nat) (R : List Nat) : Prop where
  lt : b < h.n
  mem : b ∈ R
  own : OwnL n h R
  st : ∃ A Z, h.get b = ⟨A ++ (E ++ Z), Cel.w α, 0⟩ ∧ A.length = o ∧
    ∀ (h' : AH) (x' : α) (E' : List AV) (Fi' : List Nat), h'.get b = ⟨A ++ (E' ++ Z), Cel.w α, 0⟩ → h.n ≤ h'.n → (∀ c ∈ R, c ≠ b → h'.get c = h.get c) → Cel.rep h' x' E' Fi' → Own n h' Fi' → (∀ c ∈ Fi', c ∉ R) → ∃ F', SlRep h' v (xs.set i x') F' ∧ Own n h' F' ∧ ∀ c ∈ F', c ∈ R ∨ c ∈ Fi'
section
variable {α : Type} [Cel α] {P : Program} {n b o i : Nat} {g h h' : AH} {E E' : List AV} {v : AV} {xs : List α} {R X F : List Nat} {Q : Nat → List AV → AH → Prop} {k : AV → Prog}
theorem perm_ins {b : Nat} {F1 G F2 : List Nat} : (b :: (F1 ++ (G ++ F2))).Perm ((b :: (F1 ++ F2)) ++ G) := by
  rw [List.cons_append, List.append_assoc]
  exact List.Perm.cons _ (List.Perm.append_left _ List.perm_append_comm)
theorem own_perm {F G : List Nat} (p : F.Perm G) (o : Own n h G) : Own n h F := ⟨p.nodup_iff.2 o.1, fun b hb => o.2 b (p.mem_iff.1 hb)⟩
theorem SlRep.elt (r : SlRep h v xs F) (ow : Own n h F) {x : α} (hx : xs[i]? = some x) : ∃ b off E Fi R, v = .sl b off xs.length ∧ Cel.rep h x E Fi ∧ OwnL n h Fi ∧ Elt α n h b (off + i * Cel.w α) E v xs i R ∧ (∀ c ∈ Fi, c ∉ R) ∧ (∀ c ∈ R, c ∈ F) ∧ ∀ c ∈ Fi, c ∈ F := by
  have lt := r.lt
  obtain ⟨b, off, A, E, Z, F1, Fi, F2, rfl, rfl, hb, hl, hes, hcs, hA, re, back⟩ := r.zip hx
  have hm : (h.get b).st = 0 := (ow.2 b (by simp)).2
  have hg : h.get b = ⟨A ++ (E ++ Z), Cel.w α, 0⟩ := by
    have : h.get b = ⟨(h.get b).cells, (h.get b).es, (h.get b).st⟩ := rfl
    rw [this, hcs, hes, hm]
  have o2 := own_perm perm_ins.symm ow
  have nd := List.nodup_append.1 o2.1
  have oR : Own n h (b :: (F1 ++ F2)) := ⟨nd.1, fun c hc => o2.2 c (List.mem_append_left _ hc)⟩
  have oF : Own n h Fi := ⟨nd.2.1, fun c hc => o2.2 c (List.mem_append_right _ hc)⟩
  have mR : ∀ c ∈ b :: (F1 ++ F2), c ∈ b :: (F1 ++ (Fi ++ F2)) := fun c hc => perm_ins.mem_iff.2 (List.mem_append_left _ hc)
  have mF : ∀ c ∈ Fi, c ∈ b :: (F1 ++ (Fi ++ F2)) := fun c hc => perm_ins.mem_iff.2 (List.mem_append_right _ hc)
  refine ⟨b, off, E, Fi, b :: (F1 ++ F2), rfl, re, ⟨oF, fun c hc => lt c (mF c hc)⟩, ⟨hb, List.mem_cons_self, ⟨oR, fun c hc => lt c (mR c hc)⟩, ⟨A, Z, hg, hA, fun h' x' E' Fi' hg' hn hk re' ow' hd => ?_⟩⟩, fun c hc hR => nd.2.2 c hR c hc rfl, mR, mF⟩
  have hbn : b ∉ F1 ++ F2 := (List.nodup_cons.1 nd.1).1
  have kk : ∀ c ∈ F1 ++ F2, h'.get c = h.get c ∧ c < h'.n := fun c hc => ⟨hk c (List.mem_cons_of_mem _ hc) fun e => hbn (e ▸ hc), Nat.lt_of_lt_of_le (lt c (mR c (List.mem_cons_of_mem _ hc))) hn⟩
  refine ⟨b :: (F1 ++ (Fi' ++ F2)), back h' x' E' Fi' (by rw [hg']) (by rw [hg']) (by simp [live, hg']) (Nat.lt_of_lt_of_le hb hn) kk re', own_perm perm_ins ⟨List.nodup_append.2 ⟨oR.1, ow'.1, fun a ha c hc e => hd c hc (e ▸ ha)⟩, fun c hc => ?_⟩, fun c hc => List.mem_append.1 (perm_ins.mem_iff.1 hc)⟩
  rcases List.mem_append.1 hc with q | q
  · refine ⟨(oR.2 c q).1, ?_⟩
    rcases List.mem_cons.1 q with e | e
    · subst e; rw [hg']
    · rw [(kk c e).1]; exact (oR.2 c q).2
  · exact ow'.2 c q
theorem Elt.at_ (e : Elt α n h b o E v xs i R) : At h b o E := by
  obtain ⟨A, Z, hg, hA, _⟩ := e.st
  exact at_z (es := Cel.w α) (st := 0) e.lt (by simp [live, hg]) (by rw [hg]) hA
theorem Elt.keep (e : Elt α n h b o E v xs i R) (hk : ∀ c ∈ R, h'.get c = h.get c) (hn : h.n ≤ h'.n) : Elt α n h' b o E v xs i R := by
  obtain ⟨A, Z, hg, hA, back⟩ := e.st
  refine ⟨Nat.lt_of_lt_of_le e.lt hn, e.mem, ⟨e.own.1.mono (Nat.le_refl _) hk, fun c hc => Nat.lt_of_lt_of_le (e.own.2 c hc) hn⟩, A, Z, by rw [hk b e.mem]; exact hg, hA, fun h2 x' E' Fi' hg' hn' hk' => back h2 x' E' Fi' hg' (Nat.le_trans hn hn') fun c hc hne => (hk' c hc hne).trans (hk c hc)⟩
theorem Elt.kp (e : Elt α n h b o E v xs i R) (k : Kp h h' X) (hd : ∀ c ∈ R, c ∉ X) : Elt α n h' b o E v xs i R := e.keep (fun c hc => k.2 c (e.own.2 c hc) (hd c hc)) k.1
theorem Elt.ext (e : Elt α n h b o E v xs i R) (k : Ext h h') : Elt α n h' b o E v xs i R := e.keep (fun c hc => k.2 c (e.own.2 c hc)) k.1
theorem Elt.push (e : Elt α n h b o E v xs i R) (kk : Blk) : Elt α n (h.push kk) b o E v xs i R := e.ext ((Ext.refl h).push kk)
theorem Elt.st_ {j m : Nat} {y : AV} {ys : List AV} (e : Elt α n h b o E v xs i R) (hx : y.cells? = some ys) (hn : ys.length = m) (s : SP E j ys E') (hk : ∀ h2, Elt α n h2 b o E' v xs i R → Kp h h2 [b] → h2.n = h.n → (k (.tup [])).awp P h2 Q) : (Prog.op (.st m (.ptr b (o + j)) y) k).awp P h Q := by
  obtain ⟨A, Z, hg, hA, back⟩ := e.st
  refine w_stz hg hA hx hn s ?_
  refine hk _ ⟨by simpa using e.lt, e.mem, ⟨⟨e.own.1.1, fun c hc => ⟨(e.own.1.2 c hc).1, ?_⟩⟩, fun c hc => by simpa using e.own.2 c hc⟩, A, Z, by simp, hA, fun h2 x' E2 Fi' hg' hn' hk' => back h2 x' E2 Fi' hg' (by simpa using hn') fun c hc hne => by rw [hk' c hc hne]; simp [hne]⟩ ⟨by simp, fun c hc hX => by have : c ≠ b := fun q => hX (q ▸ List.mem_singleton.2 rfl); simp [this]⟩ (by simp)
  by_cases q : c = b
  · subst q; simp
  · simp only [upd_get, q, if_false]; exact (e.own.1.2 c hc).2
theorem Elt.st0 {m : Nat} {y : AV} {ys : List AV} (e : Elt α n h b o E v xs i R) (hx : y.cells? = some ys) (hn : ys.length = m) (s : SP E 0 ys E') (hk : ∀ h2, Elt α n h2 b o E' v xs i R → Kp h h2 [b] → h2.n = h.n → (k (.tup [])).awp P h2 Q) : (Prog.op (.st m (.ptr b o) y) k).awp P h Q := e.st_ (j := 0) hx hn s hk
theorem Elt.done (e : Elt α n h b o E v xs i R) {x' : α} {Fi' : List Nat} (re : Cel.rep h x' E Fi') (ow : Own n h Fi') (hd : ∀ c ∈ Fi', c ∉ R) : ∃ F', SlRep h v (xs.set i x') F' ∧ Own n h F' ∧ ∀ c ∈ F', c ∈ R ∨ c ∈ Fi' := by
  obtain ⟨A, Z, hg, hA, back⟩ := e.st
  exact back h x' E Fi' hg (Nat.le_refl _) (fun _ _ _ => rfl) re ow hd
end
end Go.Ab
end
section
/- Worlds behind pointers: from values and back; elements; what a step moves. Written by mkpw.py. -/
set_option linter.unusedSimpArgs false
set_option linter.unusedVariables false
namespace Go.Ab
open Go.RowKit

section
variable {n b : Nat} {h h' : AH} {L : List (List Nat)}
theorem mem_fl {c : Nat} : c ∈ L.flatten ↔ ∃ (i : Nat) (G : List Nat), L[i]? = some G ∧ c ∈ G := by
  rw [List.mem_flatten]
  constructor
  · rintro ⟨G, hG, hc⟩
    obtain ⟨i, hi⟩ := List.mem_iff_getElem?.1 hG
    exact ⟨i, G, hi, hc⟩
  · rintro ⟨i, G, hi, hc⟩; exact ⟨G, List.mem_of_getElem? hi, hc⟩
theorem WSep.setG (s : WSep n h b L) {i : Nat} {F f : List Nat} (hF : L[i]? = some F) (k : Kp h h' (b :: F)) (o : OwnL n h' f) (hb : b ∉ f) (fr : ∀ c ∈ f, c ∈ F ∨ c ∉ L.flatten) : WSep n h' b (L.set i f) := by
  have dj : ∀ (j : Nat) (G : List Nat), j ≠ i → L[j]? = some G → ∀ c ∈ f, c ∉ G := fun j G hj hG c hc hc' => by
    rcases fr c hc with h1 | h1
    · exact s.dis i j F G (fun e => hj e.symm) hF hG c h1 hc'
    · exact h1 (mem_fl.2 ⟨j, G, hG, hc'⟩)
  refine ⟨fun j G hG => ?_, fun j l G H hjl hG hH => ?_⟩
  · rcases get_set' hG with ⟨_, rfl⟩ | ⟨hj, hG⟩
    · exact ⟨o, hb⟩
    · have := s.own j G hG
      refine ⟨ol_kp1 k this.1 fun c hc hX => ?_, this.2⟩
      rcases List.mem_cons.1 hX with e | e
      · subst e; exact this.2 hc
      · exact s.dis j i G F hj hG hF c hc e
  · rcases get_set' hG with ⟨a1, a2⟩ | ⟨hj, hG2⟩ <;> rcases get_set' hH with ⟨b1, b2⟩ | ⟨hl, hH2⟩
    · exact absurd (a1.trans b1.symm) hjl
    · rw [a2]; exact dj l H hl hH2
    · rw [b2]; exact fun c hc hc' => dj j G hj hG2 c hc' hc
    · exact s.dis j l G H hjl hG2 hH2
theorem WSep.of : ∀ {L : List (List Nat)}, OwnL n h L.flatten → b ∉ L.flatten → WSep n h b L
  | [], _, _ => ⟨by simp, by simp⟩
  | G :: L, o, hb => by
    rw [List.flatten_cons] at o hb
    have r := WSep.of (L := L) ⟨own_r o.1, fun c hc => o.2 c (List.mem_append_right _ hc)⟩ fun hc => hb (List.mem_append_right _ hc)
    have d := own_d o.1
    refine ⟨fun i H hH => ?_, fun i j H K hij hH hK => ?_⟩
    · cases i with
      | zero => cases hH; exact ⟨⟨own_l o.1, fun c hc => o.2 c (List.mem_append_left _ hc)⟩, fun hc => hb (List.mem_append_left _ hc)⟩
      | succ i => exact r.own i H hH
    · cases i with
      | zero =>
        cases hH
        cases j with
        | zero => exact absurd rfl hij
        | succ j => exact fun c hc hK' => d c hc (mem_fl.2 ⟨j, K, hK, hK'⟩)
      | succ i =>
        cases j with
        | zero => cases hK; exact fun c hc hK' => d c hK' (mem_fl.2 ⟨i, H, hH, hc⟩)
        | succ j => exact r.dis i j H K (fun e => hij (by rw [e])) hH hK
theorem WSep.flat : ∀ {L : List (List Nat)}, WSep n h b L → OwnL n h L.flatten
  | [], _ => ol_nil
  | G :: L, s => by
    rw [List.flatten_cons]
    refine ol_app2 (s.own 0 G rfl).1 (WSep.flat (L := L) ⟨fun i H hH => s.own (i + 1) H hH, fun i j H K hij hH hK => s.dis (i + 1) (j + 1) H K (fun e => hij (by omega)) hH hK⟩) fun c hc hm => ?_
    obtain ⟨j, H, hH, hc'⟩ := mem_fl.1 hm
    exact s.dis 0 (j + 1) G H (by omega) rfl hH c hc hc'
end
def WF.a (F : WF) : List Nat := F.l.flatten
section
variable {n b : Nat} {h h' : AH} {x : Wld} {V : WV} {F : WF}
theorem PW.own (w : PW n h b x V F) : OwnL n h F.a := w.sep.flat
theorem WF.in6 (F : WF) : ∀ c ∈ F.f6, c ∈ F.a := fun c hc => mem_fl.2 ⟨6, _, rfl, hc⟩
theorem WF.set6 {f : List Nat} {c : Nat} (hc : c ∈ ({ F with f6 := f } : WF).a) : c ∈ f ∨ c ∈ F.a := by
  obtain ⟨j, G, hG, hm⟩ := mem_fl.1 hc
  have e : ({ F with f6 := f } : WF).l = F.l.set 6 f := rfl
  rw [e] at hG
  rcases get_set' hG with ⟨_, rfl⟩ | ⟨_, hG⟩
  · exact .inl hm
  · exact .inr (mem_fl.2 ⟨j, G, hG, hm⟩)
theorem WF.in9 (F : WF) : ∀ c ∈ F.f9, c ∈ F.a := fun c hc => mem_fl.2 ⟨9, _, rfl, hc⟩
theorem WF.set9 {f : List Nat} {c : Nat} (hc : c ∈ ({ F with f9 := f } : WF).a) : c ∈ f ∨ c ∈ F.a := by
  obtain ⟨j, G, hG, hm⟩ := mem_fl.1 hc
  have e : ({ F with f9 := f } : WF).l = F.l.set 9 f := rfl
  rw [e] at hG
  rcases get_set' hG with ⟨_, rfl⟩ | ⟨_, hG⟩
  · exact .inl hm
  · exact .inr (mem_fl.2 ⟨j, G, hG, hm⟩)
theorem WF.in10 (F : WF) : ∀ c ∈ F.f10, c ∈ F.a := fun c hc => mem_fl.2 ⟨10, _, rfl, hc⟩
theorem WF.set10 {f : List Nat} {c : Nat} (hc : c ∈ ({ F with f10 := f } : WF).a) : c ∈ f ∨ c ∈ F.a := by
  obtain ⟨j, G, hG, hm⟩ := mem_fl.1 hc
  have e : ({ F with f10 := f } : WF).l = F.l.set 10 f := rfl
  rw [e] at hG
  rcases get_set' hG with ⟨_, rfl⟩ | ⟨_, hG⟩
  · exact .inl hm
  · exact .inr (mem_fl.2 ⟨j, G, hG, hm⟩)
theorem PW.of {cs : List AV} {H : List Nat} (r : Cel.rep h x cs H) (o : Own n h H) (bk : Bk h b cs 0) (nb : n ≤ b) (hb : b ∉ H) : ∃ V F, cs = x.cv V ∧ F.a = H ∧ PW n h b x V F := by
  have lt := Cel.lt r
  obtain ⟨v0, v1, v2, v3, v4, v5, v6, v7, v8, v9, v10, F0, F1, F2, F3, F4, F5, F6, F7, F8, F9, F10, rfl, rfl, r0, r1, r2, r3, r4, r5, r6, r7, r8, r9, r10⟩ := r
  have e : (WF.mk F0 F1 F2 F3 F4 F5 F6 F7 F8 F9 F10).a = F0 ++ (F1 ++ (F2 ++ (F3 ++ (F4 ++ (F5 ++ (F6 ++ (F7 ++ (F8 ++ (F9 ++ (F10)))))))))) := by simp [WF.a, WF.l]
  refine ⟨⟨v0, v1, v2, v3, v4, v5, v6, v7, v8, v9, v10⟩, ⟨F0, F1, F2, F3, F4, F5, F6, F7, F8, F9, F10⟩, rfl, e, bk, nb, WSep.of ?_ ?_, r0, r1, r2, r3, r4, r5, r6, r7, r8, r9, r10⟩
  · show OwnL n h (WF.mk F0 F1 F2 F3 F4 F5 F6 F7 F8 F9 F10).a
    rw [e]; exact ⟨o, lt⟩
  · show b ∉ (WF.mk F0 F1 F2 F3 F4 F5 F6 F7 F8 F9 F10).a
    rw [e]; exact hb
theorem PW.rep (w : PW n h b x V F) : Cel.rep h x (x.cv V) F.a ∧ Own n h F.a :=
  ⟨⟨V.v0, V.v1, V.v2, V.v3, V.v4, V.v5, V.v6, V.v7, V.v8, V.v9, V.v10, F.f0, F.f1, F.f2, F.f3, F.f4, F.f5, F.f6, F.f7, F.f8, F.f9, F.f10, rfl, by simp [WF.a, WF.l], w.r0, w.r1, w.r2, w.r3, w.r4, w.r5, w.r6, w.r7, w.r8, w.r9, w.r10⟩, w.own.1⟩
structure Mv (m : Nat) (h : AH) (b : Nat) (F : WF) (h' : AH) (F' : WF) : Prop where
  le : h.n ≤ h'.n
  get : ∀ c, c < m → c ≠ b → c ∉ F.a → h'.get c = h.get c
  fr : ∀ c ∈ F'.a, c ∈ F.a ∨ m ≤ c
theorem Mv.refl {m : Nat} : Mv m h b F h F := ⟨Nat.le_refl _, fun _ _ _ _ => rfl, fun c hc => .inl hc⟩
theorem Mv.kp {F' : WF} (k : Mv h.n h b F h' F') : Kp h h' (b :: F.a) := ⟨k.le, fun c hc hX => k.get c hc (fun e => hX (e ▸ List.mem_cons_self)) fun hm => hX (List.mem_cons_of_mem _ hm)⟩
theorem Mv.of {m : Nat} {F' : WF} (k : Kp h h' (b :: F.a)) (hm : m ≤ h.n) (fr : ∀ c ∈ F'.a, c ∈ F.a ∨ m ≤ c) : Mv m h b F h' F' :=
  ⟨k.1, fun c hc hb hF => k.2 c (by omega) fun hX => by
    rcases List.mem_cons.1 hX with e | e
    · exact hb e
    · exact hF e, fr⟩
theorem Mv.ofX {m : Nat} {X : List Nat} {F' : WF} (k : Kp h h' X) (hX : ∀ c ∈ X, c = b ∨ c ∈ F.a ∨ m ≤ c) (hm : m ≤ h.n) (fr : ∀ c ∈ F'.a, c ∈ F.a ∨ m ≤ c) : Mv m h b F h' F' :=
  ⟨k.1, fun c hc hb hF => k.2 c (by omega) fun hx => by
    rcases hX c hx with e | e | e
    · exact hb e
    · exact hF e
    · omega, fr⟩
theorem Mv.trans {m : Nat} {g : AH} {G F' : WF} (k : Mv m g b G h F) (k' : Mv m h b F h' F') : Mv m g b G h' F' :=
  ⟨Nat.le_trans k.le k'.le, fun c hc hb hG => (k'.get c hc hb fun hm => by
    rcases k.fr c hm with q | q
    · exact hG q
    · omega).trans (k.get c hc hb hG), fun c hc => by
    rcases k'.fr c hc with q | q
    · exact k.fr c q
    · exact .inr q⟩
theorem Mv.ext {m : Nat} {g : AH} {G : WF} (k : Mv m g b G h F) (hm : m ≤ h.n) (e : Ext h h') : Mv m g b G h' F :=
  ⟨Nat.le_trans k.le e.1, fun c hc hb hG => (e.2 c (by omega)).trans (k.get c hc hb hG), k.fr⟩
theorem PW.putG6 (w : PW n h b x V F) {x' : Wld} {v : AV} {f : List Nat} (bk : Bk h' b (x'.cv { V with v6 := v }) 0) (k : Kp h h' (b :: F.f6)) (r : SlRep h' v x'.due f) (o : Own n h' f) (hb : b ∉ f) (fr : ∀ c ∈ f, c ∈ F.f6 ∨ c ∉ F.a) (e0 : x'.c.rule.l = x.c.rule.l := by rfl) (e1 : x'.st = x.st := by rfl) (e2 : x'.cache = x.cache := by rfl) (e3 : x'.w.near = x.w.near := by rfl) (e4 : x'.w.far = x.w.far := by rfl) (e5 : x'.w.rest = x.w.rest := by rfl) (e7 : x'.queue = x.queue := by rfl) (e8 : x'.out = x.out := by rfl) (e9 : x'.tasks = x.tasks := by rfl) (e10 : x'.deeds = x.deeds := by rfl) : PW n h' b x' { V with v6 := v } { F with f6 := f } :=
  have dj : ∀ (j : Nat) (G : List Nat), j ≠ 6 → F.l[j]? = some G → ∀ c ∈ G, c ∉ b :: F.f6 := fun j G hj hG c hc hX => by
    rcases List.mem_cons.1 hX with e | e
    · subst e; exact (w.sep.own j G hG).2 hc
    · exact w.sep.dis j 6 G _ hj hG rfl c hc e
  ⟨bk, w.nb, w.sep.setG (i := 6) rfl k ⟨o, r.lt⟩ hb fr, by rw [e0]; exact slr_kp1 k w.r0 (dj 0 _ (by decide) rfl), by rw [e1]; exact slr_kp1 k w.r1 (dj 1 _ (by decide) rfl), by rw [e2]; exact slr_kp1 k w.r2 (dj 2 _ (by decide) rfl), by rw [e3]; exact slr_kp1 k w.r3 (dj 3 _ (by decide) rfl), by rw [e4]; exact slr_kp1 k w.r4 (dj 4 _ (by decide) rfl), by rw [e5]; exact slr_kp1 k w.r5 (dj 5 _ (by decide) rfl), r, by rw [e7]; exact slr_kp1 k w.r7 (dj 7 _ (by decide) rfl), by rw [e8]; exact slr_kp1 k w.r8 (dj 8 _ (by decide) rfl), by rw [e9]; exact slr_kp1 k w.r9 (dj 9 _ (by decide) rfl), by rw [e10]; exact slr_kp1 k w.r10 (dj 10 _ (by decide) rfl)⟩
theorem PW.putG9 (w : PW n h b x V F) {x' : Wld} {v : AV} {f : List Nat} (bk : Bk h' b (x'.cv { V with v9 := v }) 0) (k : Kp h h' (b :: F.f9)) (r : SlRep h' v x'.tasks f) (o : Own n h' f) (hb : b ∉ f) (fr : ∀ c ∈ f, c ∈ F.f9 ∨ c ∉ F.a) (e0 : x'.c.rule.l = x.c.rule.l := by rfl) (e1 : x'.st = x.st := by rfl) (e2 : x'.cache = x.cache := by rfl) (e3 : x'.w.near = x.w.near := by rfl) (e4 : x'.w.far = x.w.far := by rfl) (e5 : x'.w.rest = x.w.rest := by rfl) (e6 : x'.due = x.due := by rfl) (e7 : x'.queue = x.queue := by rfl) (e8 : x'.out = x.out := by rfl) (e10 : x'.deeds = x.deeds := by rfl) : PW n h' b x' { V with v9 := v } { F with f9 := f } :=
  have dj : ∀ (j : Nat) (G : List Nat), j ≠ 9 → F.l[j]? = some G → ∀ c ∈ G, c ∉ b :: F.f9 := fun j G hj hG c hc hX => by
    rcases List.mem_cons.1 hX with e | e
    · subst e; exact (w.sep.own j G hG).2 hc
    · exact w.sep.dis j 9 G _ hj hG rfl c hc e
  ⟨bk, w.nb, w.sep.setG (i := 9) rfl k ⟨o, r.lt⟩ hb fr, by rw [e0]; exact slr_kp1 k w.r0 (dj 0 _ (by decide) rfl), by rw [e1]; exact slr_kp1 k w.r1 (dj 1 _ (by decide) rfl), by rw [e2]; exact slr_kp1 k w.r2 (dj 2 _ (by decide) rfl), by rw [e3]; exact slr_kp1 k w.r3 (dj 3 _ (by decide) rfl), by rw [e4]; exact slr_kp1 k w.r4 (dj 4 _ (by decide) rfl), by rw [e5]; exact slr_kp1 k w.r5 (dj 5 _ (by decide) rfl), by rw [e6]; exact slr_kp1 k w.r6 (dj 6 _ (by decide) rfl), by rw [e7]; exact slr_kp1 k w.r7 (dj 7 _ (by decide) rfl), by rw [e8]; exact slr_kp1 k w.r8 (dj 8 _ (by decide) rfl), r, by rw [e10]; exact slr_kp1 k w.r10 (dj 10 _ (by decide) rfl)⟩
theorem PW.putG10 (w : PW n h b x V F) {x' : Wld} {v : AV} {f : List Nat} (bk : Bk h' b (x'.cv { V with v10 := v }) 0) (k : Kp h h' (b :: F.f10)) (r : SlRep h' v x'.deeds f) (o : Own n h' f) (hb : b ∉ f) (fr : ∀ c ∈ f, c ∈ F.f10 ∨ c ∉ F.a) (e0 : x'.c.rule.l = x.c.rule.l := by rfl) (e1 : x'.st = x.st := by rfl) (e2 : x'.cache = x.cache := by rfl) (e3 : x'.w.near = x.w.near := by rfl) (e4 : x'.w.far = x.w.far := by rfl) (e5 : x'.w.rest = x.w.rest := by rfl) (e6 : x'.due = x.due := by rfl) (e7 : x'.queue = x.queue := by rfl) (e8 : x'.out = x.out := by rfl) (e9 : x'.tasks = x.tasks := by rfl) : PW n h' b x' { V with v10 := v } { F with f10 := f } :=
  have dj : ∀ (j : Nat) (G : List Nat), j ≠ 10 → F.l[j]? = some G → ∀ c ∈ G, c ∉ b :: F.f10 := fun j G hj hG c hc hX => by
    rcases List.mem_cons.1 hX with e | e
    · subst e; exact (w.sep.own j G hG).2 hc
    · exact w.sep.dis j 10 G _ hj hG rfl c hc e
  ⟨bk, w.nb, w.sep.setG (i := 10) rfl k ⟨o, r.lt⟩ hb fr, by rw [e0]; exact slr_kp1 k w.r0 (dj 0 _ (by decide) rfl), by rw [e1]; exact slr_kp1 k w.r1 (dj 1 _ (by decide) rfl), by rw [e2]; exact slr_kp1 k w.r2 (dj 2 _ (by decide) rfl), by rw [e3]; exact slr_kp1 k w.r3 (dj 3 _ (by decide) rfl), by rw [e4]; exact slr_kp1 k w.r4 (dj 4 _ (by decide) rfl), by rw [e5]; exact slr_kp1 k w.r5 (dj 5 _ (by decide) rfl), by rw [e6]; exact slr_kp1 k w.r6 (dj 6 _ (by decide) rfl), by rw [e7]; exact slr_kp1 k w.r7 (dj 7 _ (by decide) rfl), by rw [e8]; exact slr_kp1 k w.r8 (dj 8 _ (by decide) rfl), by rw [e9]; exact slr_kp1 k w.r9 (dj 9 _ (by decide) rfl), r⟩
end
section
variable {n b i : Nat} {h h' : AH} {x : Wld} {V : WV} {F : WF} {P : Program} {Q : Nat → List AV → AH → Prop}
theorem PW.fin9 (w : PW n h b x V F) {y' : Task} {E' : List AV} {G R : List Nat} {bb o : Nat} (el : Elt Task n h' bb o E' V.v9 x.tasks i R) (re : Cel.rep h' y' E' G) (ow : Own n h' G) (hd : ∀ c ∈ G, c ∉ R) (hR : ∀ c ∈ R, c ∈ F.f9) (hG : ∀ c ∈ G, c ≠ b ∧ (c ∈ F.f9 ∨ c ∉ F.a)) (k : Kp h h' F.f9) : ∃ F', PW n h' b { x with tasks := x.tasks.set i y' } V F' ∧ (∀ c ∈ F'.a, c ∈ F.a ∨ c ∈ G) ∧ Kp h h' (b :: F.a) := by
  obtain ⟨f, q, o', m⟩ := el.done re ow hd
  refine ⟨{ F with f9 := f }, w.putG9 (x' := { x with tasks := x.tasks.set i y' }) (v := V.v9) (bk_kp1 k w.bk w.n9) (k.mono fun c hc => List.mem_cons_of_mem _ hc) q o' (fun hm => ?_) (fun c hc => ?_), fun c hc => ?_, k.mono fun c hc => List.mem_cons_of_mem _ (F.in9 c hc)⟩
  · rcases m b hm with q1 | q1
    · exact w.n9 (hR b q1)
    · exact (hG b q1).1 rfl
  · rcases m c hc with q1 | q1
    · exact .inl (hR c q1)
    · exact (hG c q1).2
  · rcases WF.set9 hc with q1 | q1
    · exact (m c q1).imp (fun q2 => F.in9 c (hR c q2)) id
    · exact .inl q1
theorem PW.app10 (w : PW n h b x V F) {a : Deed} {cs : List AV} {G : List Nat} {bytes : Nat} (ra : Cel.rep h a cs G) (oa : Own n h G) (hG : ∀ c ∈ G, c ≠ b ∧ c ∉ F.a) (hn : n ≤ h.n) (hs : (x.deeds.length + 1) * bytes ≤ 70368744177664) (hs2 : x.deeds.length + 1 < 281474976710656) {k : AV → Prog}
    (hk : ∀ v h1 f, Kp h h1 F.f10 → Bk h1 b (x.cv V) 0 → SlRep h1 v (x.deeds ++ [a]) f → (∀ h2, Bk h2 b (Wld.cv { x with deeds := x.deeds ++ [a] } { V with v10 := v }) 0 → Kp h1 h2 [b] → ∃ F', PW n h2 b { x with deeds := x.deeds ++ [a] } { V with v10 := v } F' ∧ (∀ c ∈ F'.a, c ∈ F.a ∨ c ∈ G ∨ h.n ≤ c) ∧ Kp h h2 (b :: F.a)) → (k v).awp P h1 Q) : (Prog.op (.app 20 bytes V.v10 (.sl h.n 0 1)) k).awp P (h.push ⟨cs, 20, 0⟩) Q := by
  refine app1F (n := n) w.r10 ra (own_app w.o10 oa (Nat.le_refl _) fun c hc hg => (hG c hg).2 (F.in10 c hc)) hn rfl hs hs2 fun v h1 f ek k1 q1 o1 m1 => hk v h1 f k1 (bk_kp1 k1 w.bk w.n10) q1 fun h2 b2 k2 => ?_
  have lt := w.own.2
  have hb1 := w.bk.1
  have hbf : b ∉ f := fun hm => by
    rcases m1 b hm with q | q | q
    · exact w.n10 q
    · exact (hG b q).1 rfl
    · omega
  have kk : Kp h h2 (b :: F.f10) := (k1.mono fun c hc => List.mem_cons_of_mem _ hc).trans (k2.mono fun c hc => by rw [List.mem_singleton.1 hc]; exact List.mem_cons_self)
  refine ⟨{ F with f10 := f }, w.putG10 (x' := { x with deeds := x.deeds ++ [a] }) b2 kk (slr_kp1 k2 q1 fun c hc hX => hbf (List.mem_singleton.1 hX ▸ hc)) (ol_kp1 k2 ⟨o1, q1.lt⟩ fun c hc hX => hbf (List.mem_singleton.1 hX ▸ hc)).1 hbf (fun c hc => ?_), fun c hc => ?_, kk.mono fun c hc => ?_⟩
  · rcases m1 c hc with q | q | q
    · exact .inl q
    · exact .inr (hG c q).2
    · exact .inr fun hm => by have := lt c hm; omega
  · rcases WF.set10 hc with q | q
    · rcases m1 c q with q | q | q
      · exact .inl (F.in10 c q)
      · exact .inr (.inl q)
      · exact .inr (.inr q)
    · exact .inl q
  · rcases List.mem_cons.1 hc with e | e
    · subst e; exact List.mem_cons_self
    · exact List.mem_cons_of_mem _ (F.in10 c e)
end
section
variable {α : Type} [Flat α] {P : Program} {h : AH} {Q : Nat → List AV → AH → Prop} {k : AV → Prog}
theorem app2M {n es bytes : Nat} {x y : AV} {xs ys : List α} {Fx Fy : List Nat} (rx : SlRep h x xs Fx) (ry : SlRep h y ys Fy) (o : Own n h Fx) (hn : n ≤ h.n) (hw : es = Cel.w α) (hb : (xs.length + ys.length) * bytes ≤ 70368744177664) (hs : xs.length + ys.length < 281474976710656)
    (hk : ∀ v h' F', Kp h h' Fx → SlRep h' v (xs ++ ys) F' → Own n h' F' → (∀ c ∈ F', c ∈ Fx ∨ h.n ≤ c) → (k v).awp P h' Q) : (Prog.op (.app es bytes x y) k).awp P h Q := by
  have ht : Fy.tail = [] := by rcases ry.flat with ⟨_, _, rfl⟩ | ⟨b, _, _, _, rfl, _⟩ <;> rfl
  refine aw_appF rx ry (by rw [ht, List.append_nil]; exact o) hn hw hb hs fun v h' F' kp r' o' m => hk v h' F' kp r' o' fun c hc => ?_
  rcases m c hc with q | q | q
  · exact .inl q
  · rw [ht] at q; cases q
  · exact .inr q
end
theorem aw_gen {P : Program} {h : AH} {Q : Nat → List AV → AH → Prop} {p : Prog} (R : AH → Prop) (r : R h) (k : ∀ h2, R h2 → p.awp P h2 Q) : p.awp P h Q := k h r
def Went (n m : Nat) (h : AH) (b : Nat) (F : WF) (y : Wld) (h' : AH) : Prop := ∃ V' F', PW n h' b y V' F' ∧ Mv m h b F h' F'
def NewP (h : AH) (y : Wld) (ok : Bool) : AV → AH → Prop := fun u h' => Ext h h' ∧ ∃ cs F, u = .tup [.agg cs, .bool ok] ∧ Cel.rep h' y cs F ∧ Own h.n h' F
end Go.Ab
end
section
/- A function on worlds: how it begins, and how it ends. -/
set_option linter.unusedSimpArgs false
set_option linter.unusedVariables false
namespace Go.Proofs.YtjnekdbdmoibgaaGreat
open Go Go.Ab Go.RowKit
section
variable {P : Program} {f : FuncId} {h H : AH} {x y : Wld} {cs : List AV} {F : List Nat} {Q : Nat → List AV → AH → Prop}
theorem sp_full {a c : List AV} (hl : c.length = a.length) : SP a 0 c c := ⟨by omega, by unfold splice; rw [hl]; simp⟩
theorem prolog (hc : CopyX Wld P f x) (r : Cel.rep h x cs F) {K : AV → AV → AV → Prog} (hk : ∀ (H : AH) (B : Nat) (V : WV) (G : WF), Ext h H → H.n = B + 1 → h.n + 1 + 1 ≤ B → Bk H h.n cs 0 → Bk H (h.n + 1) [AV.int .i64 0, AV.int .i64 0, AV.int .i64 0, AV.int .i64 0, AV.int .i64 0, AV.int .i64 0, AV.int .i64 0, AV.int .i64 0, AV.int .i64 0, AV.str ⟨#[]⟩, AV.str ⟨#[]⟩, AV.nils, AV.int .i64 0, AV.bool false, AV.nils, AV.int .i64 0, AV.int .i64 0, AV.int .i64 0, AV.int .i64 0, AV.int .i64 0, AV.nils, AV.int .i64 0, AV.int .i64 0, AV.nils, AV.nils, AV.nils, AV.nils, AV.nils, AV.nils, AV.nils, AV.nils, AV.int .i64 0] 0 → PW (h.n + 1 + 1) H B x V G → (K (.ptr h.n 0) (.ptr (h.n + 1) 0) (.ptr B 0)).awp P H Q) :
    (Prog.op (.box (.agg cs)) fun v1 => .op (.alloc [AV.int .i64 0, AV.int .i64 0, AV.int .i64 0, AV.int .i64 0, AV.int .i64 0, AV.int .i64 0, AV.int .i64 0, AV.int .i64 0, AV.int .i64 0, AV.str ⟨#[]⟩, AV.str ⟨#[]⟩, AV.nils, AV.int .i64 0, AV.bool false, AV.nils, AV.int .i64 0, AV.int .i64 0, AV.int .i64 0, AV.int .i64 0, AV.int .i64 0, AV.nils, AV.int .i64 0, AV.int .i64 0, AV.nils, AV.nils, AV.nils, AV.nils, AV.nils, AV.nils, AV.nils, AV.nils, AV.int .i64 0]) fun v2 => .op (.ldn 32 v1) fun v3 => .op (.call f [v3]) fun v4 => .op (.alloc [AV.int .i64 0, AV.int .i64 0, AV.int .i64 0, AV.int .i64 0, AV.int .i64 0, AV.int .i64 0, AV.int .i64 0, AV.int .i64 0, AV.int .i64 0, AV.str ⟨#[]⟩, AV.str ⟨#[]⟩, AV.nils, AV.int .i64 0, AV.bool false, AV.nils, AV.int .i64 0, AV.int .i64 0, AV.int .i64 0, AV.int .i64 0, AV.int .i64 0, AV.nils, AV.int .i64 0, AV.int .i64 0, AV.nils, AV.nils, AV.nils, AV.nils, AV.nils, AV.nils, AV.nils, AV.nils, AV.int .i64 0]) fun v5 => .op (.st 32 v5 v4) fun _ => K v1 v2 v5).awp P h Q := by
  have hl : cs.length = 32 := Cel.len r
  refine aw_box rfl ?_
  refine aw_alloc ?_
  refine aw_ldv (bk_push1 bk_push) hl (by decide) ?_
  have e0 : Ext h ((h.push ⟨cs, 0, 0⟩).push ⟨[AV.int .i64 0, AV.int .i64 0, AV.int .i64 0, AV.int .i64 0, AV.int .i64 0, AV.int .i64 0, AV.int .i64 0, AV.int .i64 0, AV.int .i64 0, AV.str ⟨#[]⟩, AV.str ⟨#[]⟩, AV.nils, AV.int .i64 0, AV.bool false, AV.nils, AV.int .i64 0, AV.int .i64 0, AV.int .i64 0, AV.int .i64 0, AV.int .i64 0, AV.nils, AV.int .i64 0, AV.int .i64 0, AV.nils, AV.nils, AV.nils, AV.nils, AV.nils, AV.nils, AV.nils, AV.nils, AV.int .i64 0], 0, 0⟩) := ((Ext.refl h).push _).push _
  refine aw_call (hc _ _ _ (rep_ext r e0)) ?_
  rintro _ h1 ⟨e1, cs1, G, rfl, q1, o1⟩
  have n1 := e1.1
  simp only [push_n] at n1 o1
  refine aw_alloc ?_
  have l1 : cs1.length = 32 := Cel.len q1
  refine aw_stv l1 rfl ?_
  have lt := Cel.lt q1
  have e2 : Ext h1 (h1.push ⟨cs1, 0, 0⟩) := (Ext.refl _).push _
  obtain ⟨V, W, rfl, eF, w⟩ := PW.of (n := h.n + 1 + 1) (rep_ext q1 e2) (ol_ext1 e2 ⟨o1, lt⟩).1 (bk_push (h := h1) (cs := cs1) (es := 0)) (by omega) (fun hm => by have := lt _ hm; omega)
  refine hk _ h1.n V W ((e0.trans e1).trans e2) rfl (by omega) (bk_ext1 e2 (bk_ext1 e1 (bk_push1 bk_push))) (bk_ext1 e2 (bk_ext1 e1 ?_)) w
  exact bk_push
theorem ret_e {b z : Nat} {V : WV} {G : WF} {z0 : List AV} {ok : Bool} (w : PW (z + 1) H b y V G) (bz : Bk H z z0 0) (e : Ext h H) (hn : h.n ≤ z) : 1 = 1 ∧ ∃ v, [AV.tup [.agg (y.cv V), .bool ok]] = [v] ∧ NewP h y ok v (H.upd z ⟨y.cv V, 0, 0⟩) := by
  obtain ⟨r, o⟩ := w.rep
  have lt := w.own.2
  have hnz : z ∉ G.a := fun hm => by have := (o.2 z hm).1; omega
  refine ⟨rfl, _, rfl, e.upd hn _, _, G.a, rfl, ?_, ?_⟩
  · exact rep_kp kp_upd r fun c hc hm => hnz (List.mem_singleton.1 hm ▸ hc)
  · exact (ol_upd1 ⟨o, lt⟩ hnz).1.mono (by omega) fun _ _ => rfl
theorem ret_w {B z : Nat} {V : WV} {G : WF} {z0 : List AV} {ok : Bool} {h2 : AH} (w : PW (z + 1) H B x V G) (bz : Bk H z z0 0) (hz : z0.length = 32) (e : Ext h H) (hn : h.n ≤ z) (W : Went (z + 1) H.n H B G y h2) :
    (Prog.op (.ldn 32 (.ptr B 0)) fun u => .op (.st 32 (.ptr z 0) u) fun _ => .fin [.cn 32 (.ptr z 0), .val (.bool ok)]).awp P h2 fun t vs h' => t = 1 ∧ ∃ v, vs = [v] ∧ NewP h y ok v h' := by
  obtain ⟨V2, F2, w2, mv⟩ := W
  have kp2 := mv.kp
  have hBo : ∀ c ∈ B :: G.a, z + 1 ≤ c := fun c hc => by
    rcases List.mem_cons.1 hc with q | q
    · rw [q]; exact w.nb
    · exact (w.own.1.2 c q).1
  have bz2 := bk_kp1 kp2 bz (fun hm => by have := hBo _ hm; omega)
  have e2 : Ext h h2 := Kp.ext e kp2 fun c hc => by have := hBo c hc; omega
  have hl : (y.cv V2).length = 32 := rfl
  refine aw_ldv w2.bk hl (by decide) ?_
  refine w_st (xs := y.cv V2) rfl hl (wr_bk bz2 (sp_full (by rw [hl, hz]))) ?_
  have bz3 : Bk (h2.upd z ⟨y.cv V2, 0, 0⟩) z (y.cv V2) 0 := bk_upd bz2.1
  refine aw_fin_2 (rv_n (cs := y.cv V2) ⟨by rw [bz3.2]; exact List.take_of_length_le (Nat.le_of_eq hl), by decide, hl, by simp [live, bz3.2]⟩) rv_v ?_
  exact ret_e w2 bz2 e2 hn
end
end Go.Proofs.YtjnekdbdmoibgaaGreat
end
