/- Slices that are made element by element; an element of one's own slice, parted from the rest. -/
import Derived.Test.YtjikmaajdpcnhaaAb38
set_option linter.unusedSimpArgs false
set_option linter.unusedVariables false
namespace Go.Ab
open Go.RowKit

/-! ### An element, parted from the rest -/
theorem set_split {α : Type} {xs : List α} {i : Nat} {x x' : α} (hx : xs[i]? = some x) : xs.set i x' = xs.take i ++ x' :: xs.drop (i + 1) := by
  have hi := (List.getElem?_eq_some_iff.1 hx).1
  rw [List.set_eq_take_append_cons_drop, if_pos hi]
theorem get_split {α : Type} {xs : List α} {i : Nat} {x : α} (hx : xs[i]? = some x) : xs = xs.take i ++ x :: xs.drop (i + 1) := by
  obtain ⟨y, hy, hd, -⟩ := drop_step (List.getElem?_eq_some_iff.1 hx).1
  rw [hx] at hy; cases hy
  rw [← hd, List.take_append_drop]
section
variable {α : Type} [Cel α] {h h' : AH}
theorem Reps.app_split : ∀ {xs ys : List α} {cs : List AV} {F : List Nat}, Reps h (xs ++ ys) cs F → ∃ c1 c2 F1 F2, cs = c1 ++ c2 ∧ F = F1 ++ F2 ∧ Reps h xs c1 F1 ∧ Reps h ys c2 F2
  | [], ys, cs, F, r => ⟨[], cs, [], F, rfl, rfl, ⟨rfl, rfl⟩, r⟩
  | x :: xs, ys, cs, F, r => by
    obtain ⟨c1, c2, F1, F2, rfl, rfl, r1, r2⟩ := r
    obtain ⟨d1, d2, G1, G2, rfl, rfl, q1, q2⟩ := Reps.app_split r2
    exact ⟨c1 ++ d1, d2, F1 ++ G1, G2, by simp, by simp, ⟨c1, d1, F1, G1, rfl, rfl, r1, q1⟩, q2⟩
theorem SlRep.zip {v : AV} {xs : List α} {F : List Nat} (r : SlRep h v xs F) {i : Nat} {x : α} (hx : xs[i]? = some x) :
    ∃ b off A E R F1 Fi F2, v = .sl b off xs.length ∧ F = b :: (F1 ++ (Fi ++ F2)) ∧ b < h.n ∧ live h b ∧ (h.get b).es = Cel.w α ∧ (h.get b).cells = A ++ (E ++ R) ∧ A.length = off + i * Cel.w α ∧ Cel.rep h x E Fi ∧
      ∀ (h' : AH) (x' : α) (E' : List AV) (Fi' : List Nat), (h'.get b).cells = A ++ (E' ++ R) → (h'.get b).es = Cel.w α → live h' b → b < h'.n → (∀ c ∈ F1 ++ F2, h'.get c = h.get c ∧ c < h'.n) → Cel.rep h' x' E' Fi' →
        SlRep h' v (xs.set i x') (b :: (F1 ++ (Fi' ++ F2))) := by
  have hi : i < xs.length := (List.getElem?_eq_some_iff.1 hx).1
  rcases r with ⟨_, h1, _⟩ | ⟨b, off, F', cs, e1, rfl, h1, h2, h3, h4, h5, h6, h7⟩
  · omega
  · have h7' := h7
    have hsp : xs = xs.take i ++ ([x] ++ xs.drop (i + 1)) := by simpa using get_split hx
    rw [hsp] at h7'
    obtain ⟨c1, c2, F1, F2, rfl, rfl, q1, q2⟩ := h7'.app_split
    obtain ⟨E, c3, Fi, F3, rfl, rfl, q3, q4⟩ := q2
    have q3 : Cel.rep h x E Fi := q3
    have l1 := q1.length
    have l3 := Cel.len q3
    have l4 := Reps.length (xs := xs.drop (i + 1)) q4
    rw [List.length_take, Nat.min_eq_left (by omega)] at l1
    rw [List.length_drop] at l4
    have hmul : xs.length * Cel.w α = i * Cel.w α + Cel.w α + (xs.length - (i + 1)) * Cel.w α := by
      rw [← Nat.succ_mul, ← Nat.add_mul]; congr 1; omega
    have hcells : (h.get b).cells = ((h.get b).cells.take off ++ c1) ++ (E ++ (c3 ++ (h.get b).cells.drop (off + xs.length * Cel.w α))) := by
      have : (h.get b).cells = (h.get b).cells.take off ++ ((c1 ++ (E ++ c3)) ++ (h.get b).cells.drop (off + xs.length * Cel.w α)) := by
        rw [h6, ← List.append_assoc, ← List.take_add, List.take_append_drop]
      simpa using this
    refine ⟨b, off, (h.get b).cells.take off ++ c1, E, c3 ++ (h.get b).cells.drop (off + xs.length * Cel.w α), F1, Fi, F3, e1, rfl, h1, h2, h3, hcells, ?_, q3, ?_⟩
    · rw [List.length_append, List.length_take, l1]; omega
    · intro h' x' E' Fi' g1 g2 g3 g4 g5 g6
      have lE := Cel.len g6
      rw [set_split hx]
      refine .inr ⟨b, off, F1 ++ (Fi' ++ F3), c1 ++ (E' ++ c3), ?_, rfl, g4, g3, g2, ?_, ?_, ?_, ?_⟩
      · rw [e1]; congr 1
        simp only [List.length_append, List.length_take, List.length_cons, List.length_drop]; omega
      · rw [g1]
        simp only [List.length_append, List.length_take, List.length_cons, List.length_drop, lE, l1, l4]
        have : (min i xs.length + (xs.length - (i + 1) + 1)) = xs.length := by omega
        rw [this, hmul]
        omega
      · simp only [List.length_append, List.length_take, List.length_cons, List.length_drop]; omega
      · rw [g1]
        have e2 : (List.take i xs ++ x' :: List.drop (i + 1) xs).length = xs.length := by simp only [List.length_append, List.length_take, List.length_cons, List.length_drop]; omega
        rw [e2]
        have e3 : ((h.get b).cells.take off).length = off := by rw [List.length_take]; omega
        have e4 : (c1 ++ (E' ++ c3)).length = xs.length * Cel.w α := by rw [List.length_append, List.length_append, l1, lE, l4, hmul]; omega
        rw [show ((h.get b).cells.take off ++ c1) ++ (E' ++ (c3 ++ (h.get b).cells.drop (off + xs.length * Cel.w α))) = (h.get b).cells.take off ++ ((c1 ++ (E' ++ c3)) ++ (h.get b).cells.drop (off + xs.length * Cel.w α)) by simp]
        rw [List.drop_left' e3, ← e4, List.take_left]
      · have k1 : Reps h' (xs.take i) c1 F1 := q1.keep fun c hc => g5 c (List.mem_append_left _ hc)
        have k2 : Reps h' (xs.drop (i + 1)) c3 F3 := Reps.keep (xs := xs.drop (i + 1)) q4 fun c hc => g5 c (List.mem_append_right _ hc)
        exact k1.append ⟨E', c3, Fi', F3, rfl, rfl, g6, k2⟩
end
section
variable {P : Program} {h : AH} {Q : Nat → List AV → AH → Prop} {k : AV → Prog}
/-- A store into a part of a block of one's own. -/
theorem w_stz {n b o j es : Nat} {A E E' R xs : List AV} {x : AV} (hg : h.get b = ⟨A ++ (E ++ R), es, 0⟩) (ho : A.length = o) (hx : x.cells? = some xs) (hn : xs.length = n) (s : SP E j xs E') (hk : (k (.tup [])).awp P (h.upd b ⟨A ++ (E' ++ R), es, 0⟩) Q) :
    (Prog.op (.st n (.ptr b (o + j)) x) k).awp P h Q := by
  obtain ⟨s1, rfl⟩ := s
  subst ho hn
  refine aw_st (by simp [mine, hg]) hx rfl (by rw [hg]; simp only [List.length_append]; omega) ?_
  have : splice (A ++ (E ++ R)) (A.length + j) xs = A ++ (splice E j xs ++ R) := by
    have e1 : A ++ (E ++ R) = (A ++ E.take j) ++ (E.drop j ++ R) := by
      rw [List.append_assoc, ← List.append_assoc (E.take j), List.take_append_drop]
    rw [e1, splice_mid (A := A ++ E.take j) (by simp; omega) (by simp; omega), List.drop_append_of_le_length (by simp; omega), List.drop_drop]
    unfold splice
    simp
  rw [hg]; simp only [this]; exact hk
theorem at_z {b es st : Nat} {A E R : List AV} {o : Nat} (hb : b < h.n) (hl : live h b) (hg : (h.get b).cells = A ++ (E ++ R)) (ho : A.length = o) : At h b o E := by
  subst ho
  exact ⟨hb, hl, by rw [hg]; simp⟩
end

theorem tail_own {α : Type} [Flat α] {h0 h : AH} {v : AV} {xs : List α} {F : List Nat} (r : SlRep h0 v xs F) (n : Nat) : Own n h F.tail := by
  rcases r.flat with ⟨_, _, rfl⟩ | ⟨b, _, _, _, rfl, _⟩ <;> exact Own.nil

section
variable {α : Type} [Cel α] {P : Program} {h h0 : AH} {Q : Nat → List AV → AH → Prop} {k : AV → Prog}
theorem own_mid {n : Nat} {b : Nat} {A B C : List Nat} (o : Own n h (b :: (A ++ (B ++ C)))) : Own n h B :=
  ⟨(List.nodup_append.1 (List.nodup_append.1 (List.nodup_cons.1 o.1).2).2.1).1, fun c hc => o.2 c (by simp [hc])⟩
theorem own_tail {n : Nat} {F G : List Nat} (o : Own n h (F ++ G)) : Own n h (F ++ G.tail) := by
  cases G with
  | nil => exact o
  | cons b G =>
    have h1 := List.nodup_append.1 o.1
    exact ⟨List.nodup_append.2 ⟨h1.1, (List.nodup_cons.1 h1.2.1).2, fun a ha c hc e => h1.2.2 a ha c (List.mem_cons_of_mem _ hc) e⟩, fun c hc => o.2 c (by
      rcases List.mem_append.1 hc with hc | hc
      · simp [hc]
      · simp [show c ∈ G from hc])⟩
/-- An element of one's own slice, with what it owns. -/
theorem aw_idxo {v : AV} {xs : List α} {F : List Nat} {n es i : Nat} {q : IntKind} {x : α} (r : SlRep h0 v xs F) (o : Own n h0 F) (hx : xs[i]? = some x) (hw : es = Cel.w α)
    (hk : ∀ b o cs Fi, At h0 b o cs → Cel.rep h0 x cs Fi → (∀ y ∈ Fi, y ∈ F) → Own n h0 Fi → (k (.ptr b o)).awp P h Q) : (Prog.op (.idx es v (.int q i)) k).awp P h Q := by
  subst hw
  obtain ⟨b, off, A, E, R, F1, Fi, F2, rfl, rfl, hb, hl, hes, hg, hA, rx, -⟩ := r.zip hx
  have hi : i < xs.length := (List.getElem?_eq_some_iff.1 hx).1
  refine aw_idx_raw hi (hk _ _ E Fi ⟨hb, hl, ?_⟩ rx (fun y hy => by simp [hy]) (own_mid o))
  rw [hg, ← hA]; simp
theorem app2' {n es bytes : Nat} {x y : AV} {xs ys : List α} {Fx Fy : List Nat} (rx : SlRep h x xs Fx) (ry : SlRep h y ys Fy) (o : Own n h (Fx ++ Fy)) (hn : n ≤ h.n) (hw : es = Cel.w α) (hb : (xs.length + ys.length) * bytes ≤ 70368744177664) (hs : xs.length + ys.length < 281474976710656)
    (hk : ∀ v h' F', (∀ h0, Ext h0 h → h0.n ≤ n → Ext h0 h') → Kp h h' Fx → SlRep h' v (xs ++ ys) F' → Own n h' F' → (k v).awp P h' Q) : (Prog.op (.app es bytes x y) k).awp P h Q := by
  refine aw_app rx ry (own_tail o) hn hw hb hs fun v h' F' kp r' o' => hk v h' F' (fun h0 e hn0 => kp.ext e fun b hb => ?_) kp r' o'
  have := (o.2 b (List.mem_append_left _ hb)).1; omega
end

section
variable {α : Type} [Flat α] {P : Program} {h : AH} {Q : Nat → List AV → AH → Prop} {k : AV → Prog}
/-- A slice of a type without slices in it is appended. -/
theorem app2F {n es bytes : Nat} {x y : AV} {xs ys : List α} {Fx Fy : List Nat} (rx : SlRep h x xs Fx) (ry : SlRep h y ys Fy) (o : Own n h Fx) (hn : n ≤ h.n) (hw : es = Cel.w α) (hb : (xs.length + ys.length) * bytes ≤ 70368744177664) (hs : xs.length + ys.length < 281474976710656)
    (hk : ∀ v h' F', (∀ h0, Ext h0 h → h0.n ≤ n → Ext h0 h') → Kp h h' Fx → SlRep h' v (xs ++ ys) F' → Own n h' F' → (k v).awp P h' Q) : (Prog.op (.app es bytes x y) k).awp P h Q := by
  have ht : Fy.tail = [] := by rcases ry.flat with ⟨_, _, rfl⟩ | ⟨b, _, _, _, rfl, _⟩ <;> rfl
  refine aw_app rx ry (by rw [ht, List.append_nil]; exact o) hn hw hb hs fun v h' F' kp r' o' => hk v h' F' (fun h0 e hn0 => kp.ext e fun b hb => ?_) kp r' o'
  have := (o.2 b hb).1; omega
end

/-! ### Slices made element by element -/
section
variable {α : Type} [Cel α] {P : Program} {h : AH}
theorem afill1 {w : Nat} {zero cs : List AV} (hz : zero.length = w) (hc : cs.length = w) : afill zero [(0, w, .agg cs)] = some cs := by
  simp only [afill, AV.cells?]
  rw [if_pos ⟨hc, by omega⟩, splice_all (by omega)]

def pMapI (w bytes : Nat) (zero : List AV) (c : Nat) (x0 : AV) : Prog := .op (.len 0 x0) fun v1 => .loop [AV.nils, AV.int .i64 0] (fun vs2 => .op (.bin 0 .lss (g vs2 1) v1) fun v4 => .ite v4 (.op (.idx w x0 (g vs2 1)) fun v5 => .op (.ldn w v5) fun v6 => .op (.alloc zero) fun v7 => .op (.st w v7 v6) fun v8 => .op (.ldn w v7) fun v9 => .op (.call c [v9]) fun v10 => .op (.bslice w 1 zero [(0, w, v10)]) fun v11 => .op (.app w bytes (g vs2 0) v11) fun v12 => .op (.bin 0 .add (g vs2 1) (AV.int .i64 1)) fun v13 => .leaf 0 [v12, v13]) (.leaf 2 [g vs2 0, g vs2 1])) fun t3 vs2 => tsel t3 1 (.leaf 1 vs2) (tsel t3 2 (.fin [.val (g vs2 0)]) .bad)
theorem mapI_spec {w bytes c : Nat} {zero : List AV} (hw : w = Cel.w α) (hz : zero.length = w) (hw2 : w ≤ 1000) {xs : List α} (hc : ∀ x ∈ xs, CopyX α P c x) {x0 : AV} {F : List Nat} (r : SlRep h x0 xs F) (hs : xs.length * bytes ≤ 70368744177664) :
    (pMapI w bytes zero c x0).awp P h fun t vs h' => t = 1 ∧ ∃ u, vs = [u] ∧ NewS α h xs u h' := by
  subst hw
  unfold pMapI
  have hsm := r.small
  have hpos := Cel.pos (α := α)
  refine aw_len r ?_
  refine aw_upto xs.length (fun i vs h1 => ∃ u G, vs = [u, .int .i64 (i : Int)] ∧ i ≤ xs.length ∧ Ext h h1 ∧ SlRep h1 u (xs.take i) G ∧ Own h.n h1 G) ⟨.nils, [], rfl, Nat.zero_le _, Ext.refl _, SlRep.nils, Own.nil⟩ ?_
  rintro i vs h1 _ ⟨u, G, rfl, hi, e1, ru, ou⟩
  simp only [g0, g1]
  refine aw_lss (fun hlt => aw_ite_t ?_) (fun hge => aw_ite_f ?_)
  · obtain ⟨x, hx, -, htk⟩ := drop_step (show i < xs.length by omega)
    refine aw_idx r hx rfl fun b o cs Fi a rx _ => ?_
    have hl := Cel.len rx
    refine aw_ldn_at a e1 hpos (List.take_of_length_le (by omega)) hl (aw_alloc (aw_st_0 rfl hl (by omega) ?_))
    rw [splice_all (by omega)]
    refine aw_ldn_at at_push (Ext.refl _) hpos (List.take_of_length_le (by omega)) hl ?_
    have e2 := e1.push ⟨cs, 0, 0⟩
    refine aw_call (hc x (List.mem_of_getElem? hx) cs Fi _ (rep_ext rx e2)) ?_
    rintro _ h2 ⟨e3, cs', G2, rfl, rx', o2⟩
    have n3 := e3.1
    simp only [push_n] at n3
    refine aw_bslice (afill1 hz (Cel.len rx')) (by omega) (by rw [Cel.len rx', Nat.one_mul]) ?_
    have ru2 : SlRep h2 u (xs.take i) G := (ru.ext ((Ext.refl h1).push _)).ext e3
    have hlen : (xs.take i).length = i := by rw [List.length_take]; omega
    have o3 : Own h.n h2 (G ++ G2) := by
      refine own_app ((ou.ext ((Ext.refl h1).push _) ru.lt).ext e3 fun b hb => by have := ru.lt b hb; simp; omega) o2 (by have := e1.1; simp only [push_n]; omega) fun c h1 h2 => ?_
      have := ru.lt c h1; have := (o2.2 c h2).1; simp only [push_n] at this; omega
    refine app1 (n := h.n) ru2 rx' o3 (by have := e1.1; omega) rfl ?_ (by rw [hlen]; omega) ?_
    · rw [hlen]; exact Nat.le_trans (Nat.mul_le_mul_right _ (by omega)) hs
    · intro u' h' F' ek kp r' o'
      refine aw_inc (by omega) (aw_leaf (aw_nexts ⟨by omega, u', F', rfl, by omega, ek h (e2.trans e3) (Nat.le_refl _), by rw [htk]; exact r', o'⟩))
  · exact aw_leaf (aw_ends (by decide) (aw_tsel_ne (by decide) (aw_tsel_eq (aw_fin1 ⟨rfl, u, rfl, e1, G, by rw [show i = xs.length by omega, List.take_length] at ru; exact ru, ou⟩))))

def pMapS (w bytes : Nat) (zero : List AV) (c : Nat) (x0 : AV) : Prog := .op (.bslice w 0 [] []) fun v1 => .loop [v1, AV.int .i64 0] (fun vs2 => .op (.len 0 x0) fun v4 => .op (.bin 0 .lss (g vs2 1) v4) fun v5 => .ite v5 (.op (.idx w x0 (g vs2 1)) fun v6 => .op (.ldn w v6) fun v7 => .op (.call c [v7]) fun v8 => .op (.alloc zero) fun v9 => .op (.st w v9 v8) fun v10 => .op (.ldn w v9) fun v11 => .op (.bslice w 1 zero [(0, w, v11)]) fun v12 => .op (.app w bytes (g vs2 0) v12) fun v13 => .op (.bin 0 .add (g vs2 1) (AV.int .i64 1)) fun v14 => .leaf 0 [v13, v14]) (.leaf 2 [g vs2 0, g vs2 1])) fun t3 vs2 => tsel t3 1 (.leaf 1 vs2) (tsel t3 2 (.fin [.val (g vs2 0)]) .bad)
theorem mapS_spec {w bytes c : Nat} {zero : List AV} (hw : w = Cel.w α) (hz : zero.length = w) (hw2 : w ≤ 1000) {xs : List α} (hc : ∀ x ∈ xs, CopyX α P c x) {x0 : AV} {F : List Nat} (r : SlRep h x0 xs F) (hs : xs.length * bytes ≤ 70368744177664) :
    (pMapS w bytes zero c x0).awp P h fun t vs h' => t = 1 ∧ ∃ u, vs = [u] ∧ NewS α h xs u h' := by
  subst hw
  unfold pMapS
  have hsm := r.small
  have hpos := Cel.pos (α := α)
  obtain ⟨re, oe⟩ := empty_own (h := h) (α := α) (w := Cel.w α) rfl
  refine aw_bslice rfl (by omega) (by simp) ?_
  refine aw_upto xs.length (fun i vs h1 => ∃ u G, vs = [u, .int .i64 (i : Int)] ∧ i ≤ xs.length ∧ Ext h h1 ∧ SlRep h1 u (xs.take i) G ∧ Own h.n h1 G) ⟨_, _, rfl, Nat.zero_le _, (Ext.refl _).push _, by rw [List.take_zero]; exact re, oe _ (Nat.le_refl _)⟩ ?_
  rintro i vs h1 _ ⟨u, G, rfl, hi, e1, ru, ou⟩
  simp only [g0, g1]
  refine aw_len r (aw_lss (fun hlt => aw_ite_t ?_) (fun hge => aw_ite_f ?_))
  · obtain ⟨x, hx, -, htk⟩ := drop_step (show i < xs.length by omega)
    refine aw_idx r hx rfl fun b o cs Fi a rx _ => ?_
    have hl := Cel.len rx
    refine aw_ldn_at a e1 hpos (List.take_of_length_le (by omega)) hl ?_
    refine aw_call (hc x (List.mem_of_getElem? hx) cs Fi _ (rep_ext rx e1)) ?_
    rintro _ h2 ⟨e3, cs', G2, rfl, rx', o2⟩
    have n3 := e3.1
    have hl2 := Cel.len rx'
    refine aw_alloc (aw_st_0 rfl hl2 (by omega) ?_)
    rw [splice_all (by omega)]
    refine aw_ldn_at at_push (Ext.refl _) hpos (List.take_of_length_le (by omega)) hl2 ?_
    have e4 := (Ext.refl h2).push ⟨cs', 0, 0⟩
    refine aw_bslice (afill1 hz hl2) (by omega) (by rw [hl2, Nat.one_mul]) ?_
    have ru2 : SlRep h2 u (xs.take i) G := ru.ext e3
    have hlen : (xs.take i).length = i := by rw [List.length_take]; omega
    have o3 : Own h.n h2 (G ++ G2) := by
      refine own_app (ou.ext e3 ru.lt) o2 e1.1 fun c h1 h2 => ?_
      have := ru.lt c h1; have := (o2.2 c h2).1; omega
    refine app1 (n := h.n) (ru2.ext e4) (rep_ext rx' e4) (o3.ext e4 fun b hb => ?_) (by have := e1.1; simp only [push_n]; omega) rfl ?_ (by rw [hlen]; omega) ?_
    · rcases List.mem_append.1 hb with hb | hb
      · exact ru2.lt b hb
      · exact Cel.lt rx' b hb
    · rw [hlen]; exact Nat.le_trans (Nat.mul_le_mul_right _ (by omega)) hs
    · intro u' h' F' ek kp r' o'
      refine aw_inc (by omega) (aw_leaf (aw_nexts ⟨by omega, u', F', rfl, by omega, ek h ((e1.trans e3).trans e4) (Nat.le_refl _), by rw [htk]; exact r', o'⟩))
  · exact aw_leaf (aw_ends (by decide) (aw_tsel_ne (by decide) (aw_tsel_eq (aw_fin1 ⟨rfl, u, rfl, e1, G, by rw [show i = xs.length by omega, List.take_length] at ru; exact ru, ou⟩))))
end
end Go.Ab
