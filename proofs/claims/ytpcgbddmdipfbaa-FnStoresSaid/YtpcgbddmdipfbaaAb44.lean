/- Stable sorts: what they make, in plain lists. -/
import Derived.Test.YtpcgbddmdipfbaaK4
set_option linter.unusedSimpArgs false
set_option linter.unusedVariables false
namespace Go.Ab
open Go.RowKit

section
variable {α : Type} (key : α → Int)
/-- Sorted by a key. -/
def Srt (xs : List α) : Prop := xs.Pairwise fun x y => key x ≤ key y
/-- The same ones of each key, in the same order. -/
def Stab (xs ys : List α) : Prop := ∀ v : Int, ys.filter (fun x => decide (key x = v)) = xs.filter (fun x => decide (key x = v))
def ins (x : α) : List α → List α
  | [] => [x]
  | y :: l => if key x < key y then x :: y :: l else y :: ins x l
/-- The stable sort. -/
def ssort (xs : List α) : List α := xs.foldl (fun acc x => ins key x acc) []
end
section
variable {α : Type} {key : α → Int} {xs ys zs us vs ws : List α}
theorem Stab.refl : Stab key xs xs := fun _ => rfl
theorem Stab.trans (a : Stab key xs ys) (b : Stab key ys zs) : Stab key xs zs := fun v => (b v).trans (a v)
theorem Stab.symm (a : Stab key xs ys) : Stab key ys xs := fun v => (a v).symm
theorem Stab.app (a : Stab key xs ys) (b : Stab key us vs) : Stab key (xs ++ us) (ys ++ vs) := fun v => by
  rw [List.filter_append, List.filter_append, a v, b v]
theorem Stab.swap (d : ∀ x ∈ xs, ∀ y ∈ ys, key x ≠ key y) : Stab key (xs ++ ys) (ys ++ xs) := fun v => by
  rw [List.filter_append, List.filter_append]
  by_cases hx : ∃ x ∈ xs, key x = v
  · obtain ⟨x, hx, e⟩ := hx
    have : ys.filter (fun x => decide (key x = v)) = [] := by
      rw [List.filter_eq_nil_iff]
      intro y hy
      have := d x hx y hy
      simp only [decide_eq_true_eq]
      omega
    rw [this, List.nil_append, List.append_nil]
  · have : xs.filter (fun x => decide (key x = v)) = [] := by
      rw [List.filter_eq_nil_iff]
      intro y hy
      simp only [decide_eq_true_eq]
      exact fun e => hx ⟨y, hy, e⟩
    rw [this, List.nil_append, List.append_nil]
theorem Stab.mem (a : Stab key xs ys) (x : α) : x ∈ ys ↔ x ∈ xs := by
  have e := a (key x)
  constructor
  · intro h
    have : x ∈ ys.filter (fun y => decide (key y = key x)) := List.mem_filter.2 ⟨h, by simp⟩
    rw [e] at this
    exact (List.mem_filter.1 this).1
  · intro h
    have : x ∈ xs.filter (fun y => decide (key y = key x)) := List.mem_filter.2 ⟨h, by simp⟩
    rw [← e] at this
    exact (List.mem_filter.1 this).1
theorem Stab.uniq : ∀ {ys zs : List α}, Srt key ys → Srt key zs → Stab key ys zs → ys = zs
  | [], zs, _, _, st => by
    cases zs with
    | nil => rfl
    | cons z zs => exact absurd ((st.mem z).1 (by simp)) (by simp)
  | y :: ys, zs, sy, sz, st => by
    cases zs with
    | nil => exact absurd ((st.mem y).2 (by simp)) (by simp)
    | cons z zs =>
      have sy' := List.pairwise_cons.1 sy
      have sz' := List.pairwise_cons.1 sz
      have h1 : key z ≤ key y := by
        have := (st.mem y).2 (by simp)
        rcases List.mem_cons.1 this with e | e
        · rw [e]; exact Int.le_refl _
        · exact sz'.1 _ e
      have h2 : key y ≤ key z := by
        have := (st.mem z).1 (by simp)
        rcases List.mem_cons.1 this with e | e
        · rw [e]; exact Int.le_refl _
        · exact sy'.1 _ e
      have he : key y = key z := by omega
      have ht : z = y := by
        have := st (key y)
        rw [List.filter_cons_of_pos (by simp [he]), List.filter_cons_of_pos (by simp)] at this
        exact (List.cons.inj this).1
      subst ht
      rw [Stab.uniq sy'.2 sz'.2 fun v => by
        have := st v
        by_cases hv : key z = v
        · rw [List.filter_cons_of_pos (by simp [hv]), List.filter_cons_of_pos (by simp [hv])] at this
          exact (List.cons.inj this).2
        · rw [List.filter_cons_of_neg (by simp [hv]), List.filter_cons_of_neg (by simp [hv])] at this
          exact this]
theorem mem_ins {x y : α} : ∀ {l : List α}, y ∈ ins key x l ↔ y = x ∨ y ∈ l
  | [] => by simp [ins]
  | z :: l => by
    unfold ins
    split
    · simp
    · simp only [List.mem_cons, mem_ins (l := l)]
      constructor
      · rintro (h | h | h) <;> simp [h]
      · rintro (h | h | h) <;> simp [h]
theorem ins_srt {x : α} : ∀ {l : List α}, Srt key l → Srt key (ins key x l)
  | [], _ => List.pairwise_singleton _ _
  | y :: l, s => by
    have s' := List.pairwise_cons.1 s
    unfold ins
    split
    · rename_i hlt
      refine List.pairwise_cons.2 ⟨fun z hz => ?_, s⟩
      rcases List.mem_cons.1 hz with e | e
      · rw [e]; omega
      · have := s'.1 z e; omega
    · rename_i hlt
      refine List.pairwise_cons.2 ⟨fun z hz => ?_, ins_srt s'.2⟩
      rcases mem_ins.1 hz with e | e
      · rw [e]; omega
      · exact s'.1 z e
theorem ins_stab {x : α} : ∀ {l : List α}, Srt key l → Stab key (l ++ [x]) (ins key x l)
  | [], _ => Stab.refl
  | y :: l, s => by
    have s' := List.pairwise_cons.1 s
    unfold ins
    split
    · rename_i hlt
      have := Stab.swap (key := key) (xs := y :: l) (ys := [x]) fun a ha b hb => by
        rw [List.mem_singleton.1 hb]
        rcases List.mem_cons.1 ha with e | e
        · rw [e]; omega
        · have := s'.1 a e; omega
      exact this
    · exact (Stab.refl (xs := [y])).app (ins_stab s'.2)
theorem ins_len {x : α} : ∀ {l : List α}, (ins key x l).length = l.length + 1
  | [] => rfl
  | y :: l => by
    unfold ins
    split
    · rfl
    · simp [ins_len (l := l)]
theorem ssort_go : ∀ (xs acc : List α), Srt key acc → Srt key (xs.foldl (fun acc x => ins key x acc) acc) ∧ Stab key (acc ++ xs) (xs.foldl (fun acc x => ins key x acc) acc)
  | [], acc, s => ⟨s, by rw [List.append_nil]; exact Stab.refl⟩
  | x :: xs, acc, s => by
    have h := ssort_go xs (ins key x acc) (ins_srt s)
    refine ⟨h.1, ?_⟩
    have : acc ++ x :: xs = (acc ++ [x]) ++ xs := by simp
    rw [this]
    exact ((ins_stab s).app Stab.refl).trans h.2
theorem ssort_srt : Srt key (ssort key xs) := (ssort_go xs [] List.Pairwise.nil).1
theorem ssort_stab : Stab key xs (ssort key xs) := (ssort_go xs [] List.Pairwise.nil).2
theorem ssort_uniq (s : Srt key ys) (st : Stab key xs ys) : ys = ssort key xs := Stab.uniq s ssort_srt (st.symm.trans ssort_stab)
theorem ssort_snoc {x : α} : ssort key (xs ++ [x]) = ins key x (ssort key xs) := by simp [ssort, List.foldl_append]
theorem ssort_len : ∀ {xs : List α}, (ssort key xs).length = xs.length := by
  intro xs
  have : ∀ (xs acc : List α), (xs.foldl (fun acc x => ins key x acc) acc).length = acc.length + xs.length := by
    intro xs
    induction xs with
    | nil => intro acc; simp
    | cons x xs ih => intro acc; simp only [List.foldl_cons, ih, ins_len, List.length_cons]; omega
  simpa [ssort] using this xs []
theorem ssort_mem {x : α} : x ∈ ssort key xs ↔ x ∈ xs := ssort_stab.mem x
theorem ssort_of (s : Srt key xs) : ssort key xs = xs := (ssort_uniq s Stab.refl).symm
theorem Srt.app (a : Srt key xs) (b : Srt key ys) (h : ∀ x ∈ xs, ∀ y ∈ ys, key x ≤ key y) : Srt key (xs ++ ys) := List.pairwise_append.2 ⟨a, b, h⟩
theorem Srt.l (a : Srt key (xs ++ ys)) : Srt key xs := (List.pairwise_append.1 a).1
theorem Srt.r (a : Srt key (xs ++ ys)) : Srt key ys := (List.pairwise_append.1 a).2.1
theorem Srt.lr (a : Srt key (xs ++ ys)) : ∀ x ∈ xs, ∀ y ∈ ys, key x ≤ key y := (List.pairwise_append.1 a).2.2
theorem Srt.at_ (a : Srt key xs) {i j : Nat} {x y : α} (hij : i ≤ j) (hx : xs[i]? = some x) (hy : xs[j]? = some y) : key x ≤ key y := by
  rcases Nat.lt_or_eq_of_le hij with h | h
  · have hi := (List.getElem?_eq_some_iff.1 hx)
    have hj := (List.getElem?_eq_some_iff.1 hy)
    have := List.pairwise_iff_getElem.1 a i j hi.1 hj.1 h
    rw [hi.2, hj.2] at this; exact this
  · subst h; rw [hx] at hy; cases hy; exact Int.le_refl _
/-- What is in order in two parts, which are in order. -/
theorem ssort_two (h : ∀ x ∈ xs, ∀ y ∈ ys, key x ≤ key y) (st : Stab key us (xs ++ ys)) : ssort key xs ++ ssort key ys = ssort key us := by
  refine ssort_uniq (ssort_srt.app ssort_srt fun x hx y hy => h x (ssort_mem.1 hx) y (ssort_mem.1 hy)) ?_
  exact st.trans (ssort_stab.app ssort_stab)
theorem ssort_stab_eq (st : Stab key xs ys) : ssort key xs = ssort key ys := Stab.uniq ssort_srt ssort_srt (ssort_stab.symm.trans (st.trans ssort_stab))
/-- The first one, put in its place. -/
theorem ssort_first {u : α} (s : Srt key (xs ++ ys)) (h1 : ∀ x ∈ xs, key x < key u) (h2 : ∀ y ∈ ys, key u ≤ key y) : ssort key (u :: (xs ++ ys)) = xs ++ u :: ys := by
  refine (ssort_uniq ?_ ?_).symm
  · refine s.l.app (List.pairwise_cons.2 ⟨h2, s.r⟩) fun x hx y hy => ?_
    rcases List.mem_cons.1 hy with e | e
    · rw [e]; have := h1 x hx; omega
    · exact s.lr x hx y e
  · have a : Stab key ([u] ++ xs) (xs ++ [u]) := Stab.swap fun x hx y hy => by
      rw [List.mem_singleton.1 hx]; have := h1 y hy; omega
    have := a.app (Stab.refl (xs := ys))
    simpa using this
/-- The last one, put in its place. -/
theorem ssort_last {u : α} (s : Srt key (xs ++ ys)) (h1 : ∀ x ∈ xs, key x ≤ key u) (h2 : ∀ y ∈ ys, key u < key y) : ssort key ((xs ++ ys) ++ [u]) = xs ++ u :: ys := by
  refine (ssort_uniq ?_ ?_).symm
  · refine s.l.app (List.pairwise_cons.2 ⟨fun y hy => by have := h2 y hy; omega, s.r⟩) fun x hx y hy => ?_
    rcases List.mem_cons.1 hy with e | e
    · rw [e]; exact h1 x hx
    · exact s.lr x hx y e
  · have a : Stab key (ys ++ [u]) ([u] ++ ys) := Stab.swap fun x hx y hy => by
      rw [List.mem_singleton.1 hy]; have := h2 x hx; omega
    have := (Stab.refl (xs := xs)).app a
    simpa using this
/-- The parts that change places. -/
theorem ssort_mid {u1 u2 v1 v2 : List α} (su : Srt key (u1 ++ u2)) (sv : Srt key (v1 ++ v2)) (h1 : ∀ x ∈ u2, ∀ y ∈ v1, key y < key x) (h2 : ∀ x ∈ u1, ∀ y ∈ v2, key x ≤ key y) :
    ssort key (u1 ++ v1) ++ ssort key (u2 ++ v2) = ssort key ((u1 ++ u2) ++ (v1 ++ v2)) := by
  refine ssort_two (fun x hx y hy => ?_) ?_
  · rcases List.mem_append.1 hx with hx | hx <;> rcases List.mem_append.1 hy with hy | hy
    · exact su.lr x hx y hy
    · exact h2 x hx y hy
    · have := h1 y hy x hx; omega
    · exact sv.lr x hx y hy
  · have a : Stab key (u2 ++ v1) (v1 ++ u2) := Stab.swap fun x hx y hy => by have := h1 x hx y hy; omega
    have := ((Stab.refl (xs := u1)).app a).app (Stab.refl (xs := v2))
    simpa using this
end

/-! ### Two that change places -/
theorem snoc_of {α : Type} {U : List α} (hU : 0 < U.length) : ∃ u x, U = u ++ [x] := by
  cases h : U.reverse with
  | nil => rw [List.reverse_eq_nil_iff.1 h] at hU; simp at hU
  | cons x u => exact ⟨u.reverse, x, by have := congrArg List.reverse h; simpa using this⟩
section
variable {α : Type}
def swp (xs : List α) (i j : Nat) : List α := match xs[i]?, xs[j]? with
  | some x, some y => (xs.set i y).set j x
  | _, _ => xs
theorem swp_len (xs : List α) (i j : Nat) : (swp xs i j).length = xs.length := by
  unfold swp; split <;> simp
theorem set_mid {A B : List α} {x y : α} {i : Nat} (hi : i = A.length) : (A ++ x :: B).set i y = A ++ y :: B := by
  subst hi; rw [List.set_append_right _ _ (Nat.le_refl _), Nat.sub_self]; rfl
theorem swp_eq {A M B : List α} {x y : α} {i j : Nat} (hi : i = A.length) (hj : j = A.length + 1 + M.length) : swp (A ++ x :: (M ++ y :: B)) i j = A ++ y :: (M ++ x :: B) := by
  have h1 : (A ++ x :: (M ++ y :: B))[i]? = some x := by rw [hi, List.getElem?_append_right (Nat.le_refl _), Nat.sub_self]; rfl
  have h2 : (A ++ x :: (M ++ y :: B))[j]? = some y := by
    have : A ++ x :: (M ++ y :: B) = (A ++ x :: M) ++ y :: B := by simp
    rw [this, List.getElem?_append_right (by simp; omega)]
    have : j - (A ++ x :: M).length = 0 := by simp; omega
    rw [this]; rfl
  unfold swp
  rw [h1, h2]
  simp only
  rw [set_mid hi]
  have : A ++ y :: (M ++ y :: B) = (A ++ y :: M) ++ y :: B := by simp
  rw [this, set_mid (by simp; omega)]
  simp
theorem swp_eq' {A M B : List α} {x y : α} {i j : Nat} (hi : i = A.length) (hj : j = A.length + 1 + M.length) : swp (A ++ x :: (M ++ y :: B)) j i = A ++ y :: (M ++ x :: B) := by
  have h1 : (A ++ x :: (M ++ y :: B))[i]? = some x := by rw [hi, List.getElem?_append_right (Nat.le_refl _), Nat.sub_self]; rfl
  have h2 : (A ++ x :: (M ++ y :: B))[j]? = some y := by
    have : A ++ x :: (M ++ y :: B) = (A ++ x :: M) ++ y :: B := by simp
    rw [this, List.getElem?_append_right (by simp; omega)]
    have : j - (A ++ x :: M).length = 0 := by simp; omega
    rw [this]; rfl
  have e := swp_eq (A := A) (M := M) (B := B) (x := x) (y := y) hi hj
  unfold swp at e ⊢
  rw [h1, h2] at e ⊢
  simp only at e ⊢
  rw [List.set_comm _ _ (by omega)]; exact e
/-- 'n' from 'a' on and 'n' from 'b' on change places. -/
def swr (xs : List α) (a b : Nat) : Nat → List α
  | 0 => xs
  | n + 1 => swp (swr xs a b n) (a + n) (b + n)
theorem swr_len (xs : List α) (a b n : Nat) : (swr xs a b n).length = xs.length := by
  induction n with
  | zero => rfl
  | succ n ih => simp only [swr, swp_len, ih]
theorem swr_eq {A M B : List α} {b : Nat} : ∀ (n : Nat) (U V U' V' : List α), U.length = n → V.length = n → U'.length = V'.length → b = A.length + U.length + U'.length + M.length →
    swr (A ++ ((U ++ U') ++ (M ++ ((V ++ V') ++ B)))) A.length b n = A ++ ((V ++ U') ++ (M ++ ((U ++ V') ++ B))) := by
  intro n
  induction n with
  | zero => intro U V U' V' hu hv _ _; rw [List.length_eq_zero_iff.1 hu, List.length_eq_zero_iff.1 hv]; rfl
  | succ n ih =>
    intro U V U' V' hu hv hl hb
    obtain ⟨u, x, rfl⟩ := snoc_of (U := U) (by omega)
    obtain ⟨v, y, rfl⟩ := snoc_of (U := V) (by omega)
    simp only [List.length_append, List.length_singleton] at hu hv hb
    have := ih u v (x :: U') (y :: V') (by omega) (by omega) (by simp [hl]) (by simp; omega)
    simp only [swr]
    have e1 : A ++ (((u ++ [x]) ++ U') ++ (M ++ (((v ++ [y]) ++ V') ++ B))) = A ++ ((u ++ x :: U') ++ (M ++ ((v ++ y :: V') ++ B))) := by simp
    rw [e1, this]
    have e2 : A ++ ((v ++ x :: U') ++ (M ++ ((u ++ y :: V') ++ B))) = (A ++ v) ++ x :: ((U' ++ (M ++ u)) ++ y :: (V' ++ B)) := by simp
    rw [e2, swp_eq (by simp; omega) (by simp; omega)]
    simp
/-- Two neighbours' blocks of one length. -/
theorem swr_blk {A M B U V : List α} {a b n : Nat} (ha : a = A.length) (hu : U.length = n) (hv : V.length = n) (hb : b = A.length + U.length + M.length) :
    swr (A ++ (U ++ (M ++ (V ++ B)))) a b n = A ++ (V ++ (M ++ (U ++ B))) := by
  have := swr_eq (A := A) (M := M) (B := B) (b := b) n U V [] [] hu hv rfl (by simpa using hb)
  subst ha
  simpa using this
/-- The first of what follows goes behind it, one by one. -/
def mvR (xs : List α) (a : Nat) : Nat → List α
  | 0 => xs
  | n + 1 => swp (mvR xs a n) (a + n) (a + n + 1)
theorem mvR_eq {A B : List α} {u : α} : ∀ (n : Nat) (V W : List α), V.length = n → mvR (A ++ u :: (V ++ W ++ B)) A.length n = A ++ (V ++ u :: (W ++ B)) := by
  intro n
  induction n with
  | zero => intro V W h; rw [List.length_eq_zero_iff.1 h]; simp [mvR]
  | succ n ih =>
    intro V W h
    obtain ⟨v, y, rfl⟩ := snoc_of (U := V) (by omega)
    simp only [List.length_append, List.length_singleton] at h
    have := ih v (y :: W) (by omega)
    simp only [mvR]
    have e1 : A ++ u :: ((v ++ [y]) ++ W ++ B) = A ++ u :: (v ++ (y :: W) ++ B) := by simp
    rw [e1, this]
    have e2 : A ++ (v ++ u :: ((y :: W) ++ B)) = (A ++ v) ++ u :: ([] ++ y :: (W ++ B)) := by simp
    rw [e2, swp_eq (by simp; omega) (by simp; omega)]
    simp
/-- One goes ahead of what is ahead of it, one by one. -/
def mvL (xs : List α) (m : Nat) : Nat → List α
  | 0 => xs
  | n + 1 => swp (mvL xs m n) (m - n) (m - n - 1)
theorem mvL_eq {A B : List α} {u : α} {m : Nat} : ∀ (n : Nat) (V W : List α), W.length = n → m = A.length + V.length + W.length → mvL (A ++ (V ++ W ++ u :: B)) m n = A ++ (V ++ u :: (W ++ B)) := by
  intro n
  induction n with
  | zero => intro V W h _; rw [List.length_eq_zero_iff.1 h]; simp [mvL]
  | succ n ih =>
    intro V W h hm
    cases W with
    | nil => simp at h
    | cons y w =>
      simp only [List.length_cons] at h hm
      have := ih (V ++ [y]) w (by omega) (by simp; omega)
      simp only [mvL]
      have e1 : A ++ (V ++ y :: w ++ u :: B) = A ++ ((V ++ [y]) ++ w ++ u :: B) := by simp
      rw [e1, this]
      have e2 : A ++ ((V ++ [y]) ++ u :: (w ++ B)) = (A ++ V) ++ y :: ([] ++ u :: (w ++ B)) := by simp
      rw [e2, swp_eq' (by simp; omega) (by simp; omega)]
      simp
end

/-! ### The parts of a merge -/
section
variable {α : Type} {key : α → Int}
theorem ins_mid {u : α} : ∀ {xs ys : List α}, (∀ x ∈ xs, key x ≤ key u) → (∀ y ∈ ys, key u < key y) → ins key u (xs ++ ys) = xs ++ u :: ys
  | [], ys, _, h2 => by
    cases ys with
    | nil => rfl
    | cons y ys => simp only [List.nil_append, ins]; rw [if_pos (h2 y (by simp))]
  | x :: xs, ys, h1, h2 => by
    have := h1 x (by simp)
    simp only [List.cons_append, ins]
    rw [if_neg (by omega), ins_mid (fun z hz => h1 z (by simp [hz])) h2]
theorem sym_cut {U V : List α} {s H : Nat} (su : Srt key U) (sv : Srt key V) (hs : s ≤ U.length) (h3 : s ≤ H) (h4 : H ≤ s + V.length)
    (h1 : s = 0 ∨ H - s = V.length ∨ ∃ x y, U[s - 1]? = some x ∧ V[H - s]? = some y ∧ key x ≤ key y)
    (h2 : s = U.length ∨ s = H ∨ ∃ x y, U[s]? = some x ∧ V[H - 1 - s]? = some y ∧ key y < key x) :
    ssort key (U.take s ++ V.take (H - s)) ++ ssort key (U.drop s ++ V.drop (H - s)) = ssort key (U ++ V) := by
  have := ssort_mid (key := key) (u1 := U.take s) (u2 := U.drop s) (v1 := V.take (H - s)) (v2 := V.drop (H - s)) (by rw [List.take_append_drop]; exact su) (by rw [List.take_append_drop]; exact sv) ?_ ?_
  · rw [List.take_append_drop, List.take_append_drop] at this; exact this
  · intro x hx y hy
    obtain ⟨i, hi⟩ := List.mem_iff_getElem?.1 hx
    obtain ⟨j, hj⟩ := List.mem_iff_getElem?.1 hy
    rw [List.getElem?_drop] at hi
    rw [List.getElem?_take] at hj
    split at hj
    · rename_i hlt
      have hil := (List.getElem?_eq_some_iff.1 hi).1
      rcases h2 with h2 | h2 | ⟨x', y', hx', hy', hk⟩
      · omega
      · omega
      · have a1 := su.at_ (by omega) hx' hi
        have a2 := sv.at_ (i := j) (j := H - 1 - s) (by omega) hj hy'
        omega
    · cases hj
  · intro x hx y hy
    obtain ⟨i, hi⟩ := List.mem_iff_getElem?.1 hx
    obtain ⟨j, hj⟩ := List.mem_iff_getElem?.1 hy
    rw [List.getElem?_drop] at hj
    rw [List.getElem?_take] at hi
    split at hi
    · rename_i hlt
      have hjl := (List.getElem?_eq_some_iff.1 hj).1
      rcases h1 with h1 | h1 | ⟨x', y', hx', hy', hk⟩
      · omega
      · omega
      · have a1 := su.at_ (i := i) (j := s - 1) (by omega) hi hx'
        have a2 := sv.at_ (by omega) hy' hj
        omega
    · cases hi
/-- In order in runs of 'n'. -/
def Runs (key : α → Int) (n : Nat) (xs : List α) : Prop := ∀ c : Nat, Srt key ((xs.drop (c * n)).take n)
theorem Runs.one {n : Nat} {xs : List α} (hn : 0 < n) (h : xs.length ≤ n) (s : Srt key xs) : Runs key n xs := fun c => by
  cases c with
  | zero => rw [Nat.zero_mul, List.drop_zero, List.take_of_length_le h]; exact s
  | succ c =>
    have : n ≤ (c + 1) * n := by rw [Nat.add_mul]; omega
    rw [List.drop_of_length_le (by omega), List.take_nil]; exact List.Pairwise.nil
theorem Runs.tail {n : Nat} {xs : List α} (r : Runs key n xs) : Runs key n (xs.drop n) := fun c => by
  have := r (c + 1)
  rw [Nat.add_mul, Nat.one_mul, Nat.add_comm] at this
  rw [List.drop_drop]; exact this
theorem Runs.head {n : Nat} {xs : List α} (r : Runs key n xs) : Srt key (xs.take n) := by simpa using r 0
theorem Runs.all {n : Nat} {xs : List α} (r : Runs key n xs) (h : xs.length ≤ n) : Srt key xs := by have := r.head; rwa [List.take_of_length_le h] at this
theorem Runs.app {n k : Nat} {xs ys : List α} (h : xs.length = k * n) (r : Runs key n xs) (r' : Runs key n ys) : Runs key n (xs ++ ys) := fun c => by
  rcases Nat.lt_or_ge c k with hc | hc
  · have h1 : (c + 1) * n ≤ k * n := Nat.mul_le_mul_right _ hc
    rw [Nat.add_mul, Nat.one_mul] at h1
    rw [List.drop_append_of_le_length (by omega), List.take_append_of_le_length (by simp; omega)]
    exact r c
  · obtain ⟨d, rfl⟩ : ∃ d, c = k + d := ⟨c - k, by omega⟩
    have : (xs ++ ys).drop ((k + d) * n) = ys.drop (d * n) := by
      rw [Nat.add_mul, ← h, ← List.drop_drop, List.drop_left]
    rw [this]; exact r' d
end
end Go.Ab
