/- What is taken out of a slice of one's own, in place. -/
import Derived.Test.YtjikmaajdpcnhaaAb29
set_option linter.unusedSimpArgs false
set_option linter.unusedVariables false
namespace Go.Ab
open Go.RowKit

section
variable {α : Type} [Flat α] {P : Program} {h h' : AH} {Q : Nat → List AV → AH → Prop} {k : AV → Prog}

/-- A part of a slice. -/
theorem aw_slc_lo {b off len es i : Nat} (he : es ≠ 0) (h1 : (h.get b).es = es) (h2 : mine h b) (h3 : off + len * es ≤ (h.get b).cells.length) (hi : i ≤ len) (hk : (k (.sl b (off + i * es) (len - i))).awp P h Q) :
    (Prog.op (.slc es (.sl b off len) (some (.int .i64 (i : Int))) none none) k).awp P h Q := by
  simp only [Prog.awp, AOp.go, bnd, asInt?]
  refine ⟨he, h1, h2, h3, Int.natCast_nonneg _, by omega, by simpa using h3, ?_⟩
  have : ((len : Int) - (i : Int)).toNat = len - i := by omega
  simpa [this] using hk
theorem aw_slc_hi {b off len es i : Nat} (he : es ≠ 0) (h1 : (h.get b).es = es) (h2 : mine h b) (h3 : off + len * es ≤ (h.get b).cells.length) (hi : i ≤ len) (hk : (k (.sl b off i)).awp P h Q) :
    (Prog.op (.slc es (.sl b off len) none (some (.int .i64 (i : Int))) none) k).awp P h Q := by
  simp only [Prog.awp, AOp.go, bnd, asInt?]
  have hle : i * es ≤ len * es := Nat.mul_le_mul_right _ hi
  refine ⟨he, h1, h2, h3, Int.le_refl _, Int.natCast_nonneg _, by simp; omega, ?_⟩
  simpa using hk
theorem aw_clr {b off len es : Nat} {zero : List AV} (h2 : mine h b) (hz : zero.length = es) (h3 : off + len * es ≤ (h.get b).cells.length) (hk : (k (.tup [])).awp P (h.upd b { h.get b with cells := splice (h.get b).cells off (List.replicate len zero).flatten }) Q) :
    (Prog.op (.clr es zero (.sl b off len)) k).awp P h Q := by
  simp only [Prog.awp, AOp.go]
  exact ⟨h2, hz, h3, hk⟩
theorem aw_idx_i {b off n es : Nat} {i : Int} {q : IntKind} (h0 : 0 ≤ i) (hi : i < n) (hk : (k (.ptr b (off + i.toNat * es))).awp P h Q) : (Prog.op (.idx es (.sl b off n) (.int q i)) k).awp P h Q := by
  simp only [Prog.awp, AOp.go]; exact ⟨h0, hi, hk⟩

/-- slices.DeleteFunc. -/
def pDelF (w : Nat) (zero : List AV) (ci : Nat) (x0 x1 : AV) : Prog := .op (.call ci [x0, x1]) fun v => .op (.bin 0 .eql v (AV.int .i64 (-1))) fun v_1 => .ite v_1 (.fin [.val x0]) (.op (.bin 0 .add v (AV.int .i64 1)) fun v_2 => .loop [v, v_2] (fun vs => .op (.len 0 x0) fun v => .op (.bin 0 .lss (g vs 1) v) fun v => .ite v (.op (.idx w x0 (g vs 1)) fun v => .op (.ldn w v) fun v => .op (.alloc zero) fun v_3 => .op (.st w v_3 v) fun v => .op (.ldn w v_3) fun v => .op (.callv x1 [v]) fun v => .op (.una .not v) fun v => .scope (.ite v (.op (.ldn w v_3) fun v => .op (.idx w x0 (g vs 0)) fun v_4 => .op (.st w v_4 v) fun v => .op (.bin 0 .add (g vs 0) (AV.int .i64 1)) fun v => .leaf 0 [v]) (.leaf 0 [g vs 0])) (fun vs_1 => .op (.bin 0 .add (g vs 1) (AV.int .i64 1)) fun v => .leaf 0 [g vs_1 0, v]) fun t vs => tsel t 1 (.leaf 1 vs) .bad) (.leaf 2 [g vs 0, g vs 1])) fun t vs => tsel t 1 (.leaf 1 vs) (tsel t 2 (.op (.slc w x0 (some (g vs 0)) none none) fun v => .op (.clr w zero v) fun v => .op (.slc w x0 none (some (g vs 0)) none) fun v => .fin [.val v]) .bad))

theorem idx_cases {α : Type} (p : α → Bool) (xs : List α) : (idx p xs = -1 ∧ xs.filter (fun x => !p x) = xs) ∨ ∃ (i : Nat) (x : α), idx p xs = i ∧ xs[i]? = some x ∧ p x = true ∧ (xs.take i).filter (fun x => !p x) = xs.take i := by
  unfold idx
  by_cases hi : xs.findIdx p < xs.length
  · right
    refine ⟨xs.findIdx p, xs[xs.findIdx p], by rw [if_pos hi], List.getElem?_eq_getElem hi, List.findIdx_getElem, ?_⟩
    rw [List.filter_eq_self]
    intro a ha
    obtain ⟨j, hj, rfl⟩ := List.getElem_of_mem ha
    simp only [List.length_take] at hj
    rw [List.getElem_take]
    simpa using List.not_of_lt_findIdx (show j < xs.findIdx p by omega)
  · left
    refine ⟨by rw [if_neg hi], ?_⟩
    rw [List.filter_eq_self]
    have : xs.findIdx p = xs.length := by have := List.findIdx_le_length (xs := xs) (p := p); omega
    rw [List.findIdx_eq_length] at this
    intro x hx; simp [this x hx]

theorem at_flat {b es : Nat} {A C R : List AV} {n : Nat} (hb : b < h.n) (hg : h.get b = ⟨A ++ (C ++ R), es, 0⟩) (hn : n = A.length) : At h b n C := by
  subst hn
  refine ⟨hb, by simp [live, hg], ?_⟩
  rw [hg]
  simp

theorem delF_spec {w ci n : Nat} {zero : List AV} (hw : w = Cel.w α) (hz : zero.length = w) {xs : List α} {v : AV} {F : List Nat} {f : FuncId} {caps : List AV} {p : α → Bool} (r : SlRep h v xs F) (o : Own n h F)
    (hi : RCalls P ci [v, .fn f caps] h (.int .i64 (idx p xs))) (hf : ∀ h', Kp h h' F → Looks α P h' f caps p) :
    (pDelF w zero ci v (.fn f caps)).awp P h fun t vs h' => t = 1 ∧ ∃ u, vs = [u] ∧ Kp h h' F ∧ SlRep h' u (xs.filter fun x => !p x) F ∧ Own n h' F := by
  subst hw
  have hpos := Cel.pos (α := α)
  unfold pDelF
  refine aw_rcall hi ?_
  rcases idx_cases p xs with ⟨e1, e2⟩ | ⟨i0, x0, e1, e2, e3, e4⟩
  · rw [e1]
    exact aw_eql (fun _ => aw_ite_t (aw_fin1 ⟨rfl, v, rfl, Kp.refl _ _, by rw [e2]; exact r, o⟩)) (fun hne => absurd rfl hne)
  · rw [e1]
    have hsm := r.small
    have hi0 : i0 < xs.length := (List.getElem?_eq_some_iff.1 e2).1
    refine aw_eql (fun h => by omega) (fun _ => aw_ite_f ?_)
    refine aw_inc (j := i0) (by omega) ?_
    rcases r.flat with ⟨_, rfl, _⟩ | ⟨b, pre, post, rfl, rfl, hb, hl, hes, hs, hc⟩
    · simp at e2
    have hmine : (h.get b).st = 0 := (o.2 b (by simp)).2
    refine aw_loop (fun k vs h1 => ∃ (i j : Nat) (junk : List AV), vs = [.int .i64 (i : Int), .int .i64 (j : Int)] ∧ k = xs.length - j ∧ i < j ∧ j ≤ xs.length ∧ Kp h h1 [b] ∧ ((xs.take j).filter fun x => !p x).length = i ∧ junk.length = (j - i) * Cel.w α ∧
      h1.get b = ⟨(pre ++ ((xs.take j).filter fun x => !p x).flatMap Flat.enc) ++ (junk ++ ((xs.drop j).flatMap Flat.enc ++ post)), Cel.w α, 0⟩) (xs.length - (i0 + 1)) ?_ ?_
    · obtain ⟨y, hy, hd, ht⟩ := drop_step hi0
      rw [e2] at hy; cases hy
      refine ⟨i0, i0 + 1, Flat.enc x0, rfl, rfl, by omega, hi0, Kp.refl _ _, ?_, ?_, ?_⟩
      · rw [ht, List.filter_append, e4]; simp [e3]; omega
      · rw [enc_len, Nat.add_sub_cancel_left, Nat.one_mul]
      · have e : h.get b = ⟨(h.get b).cells, (h.get b).es, (h.get b).st⟩ := rfl
        rw [e, hc, hes, hmine, ht, List.filter_append, e4]
        congr 1
        have : xs = xs.take i0 ++ x0 :: xs.drop (i0 + 1) := by rw [← hd, List.take_append_drop]
        conv => lhs; rw [this]
        simp [e3]
    · rintro k vs h1 ⟨i, j, junk, rfl, rfl, hij, hj, kp, hlen, hjl, hg⟩
      have hb1 : b < h1.n := Nat.lt_of_lt_of_le hb kp.1
      have hA : (pre ++ ((xs.take j).filter fun x => !p x).flatMap Flat.enc).length = pre.length + i * Cel.w α := by
        rw [List.length_append, flat_len', hlen]
      have hji : i * Cel.w α + (j - i) * Cel.w α = j * Cel.w α := by rw [← Nat.add_mul]; congr 1; omega
      simp only [g0, g1]
      refine aw_len_raw (aw_lss (fun hlt => ?_) (fun hge => ?_))
      · obtain ⟨x, hx, hd, ht⟩ := drop_step (show j < xs.length by omega)
        refine aw_ite_t (aw_idx_n (by omega) ?_)
        have a1 : At h1 b (pre.length + j * Cel.w α) (Flat.enc x) := by
          refine at_flat (es := Cel.w α) (A := (pre ++ ((xs.take j).filter fun x => !p x).flatMap Flat.enc) ++ junk) (R := (xs.drop (j + 1)).flatMap Flat.enc ++ post) hb1 (by rw [hg, hd, List.flatMap_cons]; simp only [List.append_assoc]) ?_
          rw [List.length_append, hA, hjl]; omega
        refine aw_ldn_at a1 (Ext.refl _) hpos (List.take_of_length_le (by rw [enc_len]; exact Nat.le_refl _)) (enc_len x) ?_
        refine aw_alloc ?_
        refine aw_st_0 rfl (enc_len x) (by omega) ?_
        have hsp : splice zero 0 (Flat.enc x) = Flat.enc x := by
          unfold splice; rw [List.drop_of_length_le (by rw [enc_len]; omega)]; simp
        rw [hsp]
        refine aw_ldn_at at_push (Ext.refl _) hpos (List.take_of_length_le (by rw [enc_len]; exact Nat.le_refl _)) (enc_len x) ?_
        refine aw_rcallv (hf _ (kp.trans_ext ((Ext.refl _).push _)) x _ [] (Flat.rep_iff.2 ⟨rfl, rfl⟩)) ?_
        refine aw_not (aw_scope (aw_ite (fun hp => ?_) (fun hp => ?_)))
        · refine aw_ldn_at at_push (Ext.refl _) hpos (List.take_of_length_le (by rw [enc_len]; exact Nat.le_refl _)) (enc_len x) ?_
          refine aw_idx_n (by omega) ?_
          have hbn : b ≠ h1.n := by omega
          have hg2 : (h1.push ⟨Flat.enc x, 0, 0⟩).get b = ⟨(pre ++ ((xs.take j).filter fun x => !p x).flatMap Flat.enc) ++ (junk ++ ((xs.drop j).flatMap Flat.enc ++ post)), Cel.w α, 0⟩ := by simp [hbn, hg]
          have hjw : Cel.w α ≤ junk.length := by rw [hjl]; exact Nat.le_mul_of_pos_left _ (by omega)
          refine aw_st (by simp only [mine, hg2]) rfl (enc_len x) (by rw [hg2]; simp only [List.length_append] at hA ⊢; omega) ?_
          refine aw_inc (j := i) (by omega) ?_
          refine aw_leaf (aw_nexts ?_)
          refine aw_inc (j := j) (by omega) ?_
          refine aw_leaf (aw_nexts ?_)
          have hfl : (xs.take (j + 1)).filter (fun x => !p x) = (xs.take j).filter (fun x => !p x) ++ [x] := by rw [ht, List.filter_append]; simp at hp; simp [hp]
          refine ⟨xs.length - (j + 1), by omega, i + 1, j + 1, junk.drop (Cel.w α) ++ Flat.enc x, rfl, rfl, by omega, by omega, ?_, ?_, ?_, ?_⟩
          · refine (kp.trans_ext ((Ext.refl h1).push ⟨Flat.enc x, 0, 0⟩)).trans ?_
            exact ⟨Nat.le_refl _, fun c _ hX => by have : c ≠ b := fun e => hX (by simp [e]); simp [this]⟩
          · rw [hfl]; simp [hlen]
          · rw [List.length_append, List.length_drop, hjl, enc_len, show j + 1 - (i + 1) = j - i by omega]; omega
          · simp only [upd_get, if_true, hg2, hfl]
            rw [splice_mid hA (by rw [List.length_append, enc_len]; omega), enc_len, hd, List.drop_append_of_le_length hjw]
            simp
        · refine aw_leaf (aw_nexts ?_)
          refine aw_inc (j := j) (by omega) ?_
          refine aw_leaf (aw_nexts ?_)
          have hbn : b ≠ h1.n := by omega
          have hfl : (xs.take (j + 1)).filter (fun x => !p x) = (xs.take j).filter (fun x => !p x) := by rw [ht, List.filter_append]; simp at hp; simp [hp]
          refine ⟨xs.length - (j + 1), by omega, i, j + 1, junk ++ Flat.enc x, rfl, rfl, by omega, by omega, kp.trans_ext ((Ext.refl _).push _), by rw [hfl]; exact hlen, ?_, ?_⟩
          · rw [List.length_append, hjl, enc_len, show j + 1 - i = (j - i) + 1 by omega, Nat.add_mul, Nat.one_mul]
          · rw [push_get, if_neg hbn, hg, hfl, hd]; simp
      · have : j = xs.length := by omega
        subst this
        refine aw_ite_f (aw_leaf (aw_ends (by decide) (aw_tsel_ne (by decide) (aw_tsel_eq ?_))))
        simp only [g0]
        rw [List.take_length] at hlen hg hA
        rw [List.drop_length, List.flatMap_nil, List.nil_append] at hg
        have hes1 : (h1.get b).es = Cel.w α := by rw [hg]
        have hm1 : mine h1 b := by simp only [mine, hg]
        have hcl : (h1.get b).cells.length = pre.length + xs.length * Cel.w α + post.length := by
          rw [hg]; simp only [List.length_append] at hA ⊢; omega
        refine aw_slc_lo (i := i) (by omega) hes1 hm1 (by omega) (by omega) ?_
        refine aw_clr hm1 hz (by omega) ?_
        have hzl : ((List.replicate (xs.length - i) zero).flatten).length = (xs.length - i) * Cel.w α := by rw [flat_len, hz]
        have hsp : splice (h1.get b).cells (pre.length + i * Cel.w α) (List.replicate (xs.length - i) zero).flatten = pre ++ ((xs.filter fun x => !p x).flatMap Flat.enc ++ ((List.replicate (xs.length - i) zero).flatten ++ post)) := by
          rw [hg, splice_mid hA (by simp only [List.length_append]; omega), hzl, ← hjl, List.drop_left]
          simp only [List.append_assoc]
        rw [hsp]
        have hg2 : (h1.upd b { h1.get b with cells := pre ++ ((xs.filter fun x => !p x).flatMap Flat.enc ++ ((List.replicate (xs.length - i) zero).flatten ++ post)) }).get b = ⟨pre ++ ((xs.filter fun x => !p x).flatMap Flat.enc ++ ((List.replicate (xs.length - i) zero).flatten ++ post)), Cel.w α, 0⟩ := by
          simp only [upd_get, if_true, hg]
        have hfl := flat_len' (xs.filter fun x => !p x)
        rw [hlen] at hfl
        refine aw_slc_hi (i := i) (by omega) (by rw [hg2]) (by simp only [mine, hg2]) (by rw [hg2]; simp only [List.length_append, hzl, hfl]; omega) (by omega) ?_
        refine aw_fin1 ⟨rfl, _, rfl, kp.trans ?_, ?_, o.1, ?_⟩
        · exact ⟨Nat.le_refl _, fun c _ hX => by have : c ≠ b := fun e => hX (by simp [e]); simp [this]⟩
        · have := slrep_flat (h := h1.upd b { h1.get b with cells := pre ++ ((xs.filter fun x => !p x).flatMap Flat.enc ++ ((List.replicate (xs.length - i) zero).flatten ++ post)) }) (b := b) (pre := pre) (post := (List.replicate (xs.length - i) zero).flatten ++ post) (xs := xs.filter fun x => !p x) hb1 (by simp only [live, hg2]; decide) (by rw [hg2]) (by omega) (by rw [hg2])
          rw [hlen] at this
          exact this
        · intro c hc
          simp at hc; subst hc
          exact ⟨(o.2 c (by simp)).1, by rw [hg2]⟩

/-- All but the first. -/
theorem aw_tail {w n : Nat} (hw : w = Cel.w α) {v : AV} {x : α} {xs : List α} {F : List Nat} (r : SlRep h v (x :: xs) F) (o : Own n h F) (hk : ∀ u, SlRep h u xs F → (k u).awp P h Q) : (Prog.op (.slc w v (some (.int .i64 1)) none none) k).awp P h Q := by
  subst hw
  have hpos := Cel.pos (α := α)
  rcases r.flat with ⟨_, e, _⟩ | ⟨b, pre, post, rfl, rfl, hb, hl, hes, hs, hc⟩
  · cases e
  · have hm : mine h b := (o.2 b (by simp)).2
    have hlen : (h.get b).cells.length = pre.length + (xs.length + 1) * Cel.w α + post.length := by
      rw [hc]; simp only [List.length_append, flat_len', List.length_cons]; omega
    refine aw_slc_lo (i := 1) (by omega) hes hm (by simp only [List.length_cons]; omega) (by simp) ?_
    have : pre.length + 1 * Cel.w α = (pre ++ Flat.enc x).length := by simp [enc_len]
    rw [this]
    simp only [List.length_cons, Nat.add_sub_cancel]
    exact hk _ (slrep_flat (post := post) hb hl hes (by simp at hs; omega) (by rw [hc]; simp))

end
end Go.Ab
