
/- What took place, in order. -/
import Derived.Test.YtpcgbddmdipfbaaW40
import Derived.Test.YtpcgbddmdipfbaaAb51
set_option linter.unusedSimpArgs false
set_option linter.unusedVariables false
set_option maxHeartbeats 2000000
namespace Go.Proofs.Ytpcgbddmdipfbaa
open Go Go.Ab
section
/- impl.Order$1 -/
def p_impl_Order_1 (x0 x1 x2 : AV) : Prog := .op (.ld1 x2) fun v1 => .op (.idx 20 v1 x0) fun v2 => .op (.fad 18 v2) fun v3 => .op (.ld1 v3) fun v4 => .op (.ld1 x2) fun v5 => .op (.idx 20 v5 x1) fun v6 => .op (.fad 18 v6) fun v7 => .op (.ld1 v7) fun v8 => .op (.call n_cmp_Compare_int [v4, v8]) fun v9 => .fin [.val v9]
theorem c_impl_Order_1 (x0 x1 x2 : AV) : CC Try.prog n_impl_Order_1 [x0, x1, x2] (p_impl_Order_1 x0 x1 x2) := cc Try.func119 [] (fun r => if r = 1 then [(0, []), (1, []), (2, []), (3, []), (4, []), (5, []), (6, []), (7, []), (8, []), (9, []), (10, []), (11, [])] else []) (by kernel_rfl)
/- impl.Order -/
def p_impl_Order (x0 : AV) : Prog := .op (.box x0) fun v1 => .op (.ld1 v1) fun v2 => .op (.len 0 v2) fun v3 => .loop [AV.nils, AV.int .i64 0] (fun vs4 => .op (.bin 0 .lss (g vs4 1) v3) fun v6 => .ite v6 (.op (.idx 20 v2 (g vs4 1)) fun v7 => .op (.ldn 20 v7) fun v8 => .op (.alloc z20_1ff) fun v9 => .op (.st 20 v9 v8) fun v10 => .op (.fad 18 v9) fun v11 => .op (.ld1 v11) fun v12 => .op (.bin 0 .neq v12 (AV.int .i64 (-1))) fun v13 => .scope (.ite v13 (.op (.bslice 1 1 [AV.int .i64 0] [(0, 1, g vs4 1)]) fun v14 => .op (.app 1 8 (g vs4 0) v14) fun v15 => .leaf 0 [v15]) (.leaf 0 [g vs4 0])) (fun vs16 => .op (.bin 0 .add (g vs4 1) (AV.int .i64 1)) fun v18 => .leaf 0 [g vs16 0, v18]) fun t17 vs16 => tsel t17 1 (.leaf 1 vs16) .bad) (.leaf 2 [g vs4 0, g vs4 1])) fun t5 vs4 => tsel t5 1 (.leaf 1 vs4) (tsel t5 2 (.op (.mkfn n_impl_Order_1 [v1]) fun v19 => .op (.call n_slices_SortStableFunc_int [g vs4 0, v19]) fun v20 => .fin [.val (g vs4 0)]) .bad)
theorem c_impl_Order (x0 : AV) : CC Try.prog n_impl_Order [x0] (p_impl_Order x0) := cc Try.func14 [1, 3, 6, 7, 8] (fun _ => []) (by kernel_rfl)
/- spec.Order -/
def p_spec_Order (x0 : AV) : Prog := .op (.bslice 1 0 [] []) fun v1 => .loop [v1, AV.int .i64 0, .tup []] (fun vs2 => .op (.len 0 x0) fun v4 => .op (.bin 0 .lss (g vs2 1) v4) fun v5 => .ite v5 (.scope (.op (.idx 20 x0 (g vs2 1)) fun v6 => .op (.fad 18 v6) fun v7 => .op (.ld1 v7) fun v8 => .op (.bin 0 .eql v8 (AV.int .i64 (-1))) fun v9 => .ite v9 (.leaf 0 [g vs2 0, g vs2 2]) (.op (.len 0 (g vs2 0)) fun v10 => .loop [v10] (fun vs11 => .op (.bin 0 .gtr (g vs11 0) (AV.int .i64 0)) fun v13 => .gop v13 true (.mv x0) fun v14 => .gop v13 true (.mv (g vs2 0)) fun v15 => .gop v13 true (.mv (g vs11 0)) fun v16 => .gop v13 true (.bin 0 .sub v16 (AV.int .i64 1)) fun v17 => .gop v13 true (.idx 1 v15 v17) fun v18 => .gop v13 true (.ld1 v18) fun v19 => .gop v13 true (.idx 20 v14 v19) fun v20 => .gop v13 true (.fad 18 v20) fun v21 => .gop v13 true (.ld1 v21) fun v22 => .gop v13 true (.mv x0) fun v23 => .gop v13 true (.mv (g vs2 1)) fun v24 => .gop v13 true (.idx 20 v23 v24) fun v25 => .gop v13 true (.fad 18 v25) fun v26 => .gop v13 true (.ld1 v26) fun v27 => .gop v13 true (.bin 0 .gtr v22 v27) fun v28 => .op (.pick v13 v28 (AV.bool false)) fun v29 => .ite v29 (.op (.bin 0 .sub (g vs11 0) (AV.int .i64 1)) fun v30 => .leaf 0 [v30]) (.leaf 4 [g vs11 0])) fun t12 vs11 => tsel t12 1 (.leaf 1 vs11) (tsel t12 4 (.op (.bslice 1 0 [] []) fun v31 => .op (.slc 1 (g vs2 0) none (some (g vs11 0)) none) fun v32 => .op (.bslice 1 1 [AV.int .i64 0] [(0, 1, g vs2 1)]) fun v33 => .op (.slc 1 (g vs2 0) (some (g vs11 0)) none none) fun v34 => .op (.app 1 8 v31 v32) fun v35 => .chk (.bslice 1 1 [AV.int .i64 0] [(0, 1, g vs2 1)]) v33 (.chk (.slc 1 (g vs2 0) (some (g vs11 0)) none none) v34 (.op (.app 1 8 v35 v33) fun v36 => .chk (.slc 1 (g vs2 0) (some (g vs11 0)) none none) v34 (.op (.app 1 8 v36 v34) fun v37 => .leaf 0 [v37, g vs11 0])))) .bad))) (fun vs38 => .op (.bin 0 .add (g vs2 1) (AV.int .i64 1)) fun v40 => .leaf 0 [g vs38 0, v40, g vs38 1]) fun t39 vs38 => tsel t39 1 (.leaf 1 vs38) .bad) (.leaf 2 [g vs2 0, g vs2 1, g vs2 2])) fun t3 vs2 => tsel t3 1 (.leaf 1 vs2) (tsel t3 2 (.fin [.val (g vs2 0)]) .bad)
theorem c_spec_Order (x0 : AV) : CC Try.prog n_spec_Order [x0] (p_spec_Order x0) := cc Try.func12 [0, 3, 4, 5] (fun r => if r = 7 then [(0, []), (1, []), (2, []), (3, []), (4, []), (5, []), (6, []), (7, []), (8, []), (9, []), (10, []), (11, []), (12, []), (13, []), (14, []), (15, []), (16, []), (17, []), (18, [])] else if r = 9 then [(0, []), (1, []), (2, []), (3, []), (5, []), (6, []), (8, []), (9, []), (10, []), (4, [6, 10]), (7, [10]), (11, []), (12, [])] else []) (by kernel_rfl)
end
def linAt (l : List Deed) (j : Nat) : Int := match l[j]? with
  | some d => d.lin
  | none => -1
def ords (l : List Deed) (i : Nat) : List Int := ((List.range i).filter fun j => decide (linAt l j ≠ -1)).map fun (j : Nat) => (j : Int)
def okey (l : List Deed) (i : Int) : Int := linAt l i.toNat
def orderL (l : List Deed) : List Int := ssort (okey l) (ords l l.length)
theorem linAt_eq {l : List Deed} {j : Nat} {d : Deed} (hd : l[j]? = some d) : linAt l j = d.lin := by unfold linAt; rw [hd]
theorem ords_s {l : List Deed} {i : Nat} {d : Deed} (hd : l[i]? = some d) : ords l (i + 1) = if d.lin = -1 then ords l i else ords l i ++ [(i : Int)] := by
  unfold ords
  rw [List.range_succ, List.filter_append, List.map_append]
  split
  · rename_i e
    rw [List.filter_cons_of_neg (by rw [linAt_eq hd]; simpa using e)]; simp
  · rename_i e
    rw [List.filter_cons_of_pos (by rw [linAt_eq hd]; simpa using e)]; simp
theorem ords_in {l : List Deed} {i : Nat} (hi : i ≤ l.length) : ∀ x ∈ ords l i, 0 ≤ x ∧ x.toNat < l.length := by
  intro x hx
  obtain ⟨j, hj, rfl⟩ := List.mem_map.1 hx
  have := List.mem_range.1 (List.mem_filter.1 hj).1
  omega
theorem orderL_len (l : List Deed) : (orderL l).length ≤ l.length := by
  unfold orderL ords
  rw [ssort_len, List.length_map]
  have := List.length_filter_le (fun j => decide (linAt l j ≠ -1)) (List.range l.length)
  simpa using this
theorem s_impl_Order_1 {h : AH} {b : Nat} {v : AV} {l : List Deed} {F : List Nat} {x y : Int} (a : At h b 0 [v]) (r : SlRep h v l F) (hx : 0 ≤ x ∧ x.toNat < l.length) (hy : 0 ≤ y ∧ y.toNat < l.length) : RCalls Try.prog n_impl_Order_1 [.int .i64 x, .int .i64 y, .ptr b 0] h (.int .i64 (cmpI (okey l x) (okey l y))) := by
  obtain ⟨hx1, hx2⟩ := hx
  obtain ⟨hy1, hy2⟩ := hy
  obtain ⟨dx, ex, -, -⟩ := drop_step hx2
  obtain ⟨dy, ey, -, -⟩ := drop_step hy2
  refine reader (c_impl_Order_1 _ _ _) (by simp only [old]) ?_
  unfold p_impl_Order_1
  (repeat' first|refine vs ?_|(refine br ?_ ?_<;>intro _<;>try(exfalso;first|omega|contradiction))|((with_reducible refine g_callf n_cmp_Compare_int ?_);refine aw_rcall s_cmp_Compare_int ?_)|((with_reducible refine g_idx ?_);((first|refine ix ?_|refine ixi ?_|(refine ixg ?_;intro _ _)|(refine ixgi ?_;intro _ _));first|rintro _ _ _ _ _ ⟨rfl,rfl⟩ _|rintro _ _ _ _ _ ⟨_,rfl,_⟩ _|rintro _ _ _ _ _ ⟨_,_,_,_,rfl,rfl,_,_⟩ _|intro _ _ _ _ _ _ _))|(refine sx ?_;intro _ _)|((with_reducible refine g_awp ?_);simp only [g0,g1,g2]))
  refine pi ?_
  unfold okey
  rw [linAt_eq ex, linAt_eq ey]
theorem s_impl_Order {h : AH} {l : List Deed} {v : AV} {F : List Nat} (hs : l.length ≤ 67108864) (r : SlRep h v l F) : ACalls Try.prog n_impl_Order [v] h (NewS Int h (orderL l)) := by
  have hsm := r.small
  refine c_impl_Order _ ?_
  unfold p_impl_Order
  refine aw_box r.cell ?_
  refine vs ?_
  refine aw_upto l.length (fun i vs h1 => ∃ u G, vs = [u, .int .i64 (i : Int)] ∧ i ≤ l.length ∧ Ext h h1 ∧ Bk h1 h.n [v] 0 ∧ h.n + 1 ≤ h1.n ∧ SlRep h1 u (ords l i) G ∧ Own (h.n + 1) h1 G) ⟨.nils, [], rfl, Nat.zero_le _, ext_auto, bk_auto, by simp, SlRep.nils, Own.nil⟩ ?_
  rintro i vs h1 _ ⟨u, G, rfl, hi, e1, b1, m1, ru, ou⟩
  simp only [g0, g1]
  refine br (fun hlt => ?_) (fun hge => ?_)
  · obtain ⟨d, hd, -, -⟩ := drop_step (show i < l.length by omega)
    have hos := ords_s hd
    refine vs ?_
    refine aw_idx r hd rfl ?_
    rintro b o _ Fi a ⟨v0, rfl, r0⟩ _
    (repeat' first|refine vs ?_|(refine br ?_ ?_<;>intro _<;>try(exfalso;first|omega|contradiction))|((with_reducible refine g_idx ?_);((first|refine ix ?_|refine ixi ?_|(refine ixg ?_;intro _ _)|(refine ixgi ?_;intro _ _));first|rintro _ _ _ _ _ ⟨rfl,rfl⟩ _|rintro _ _ _ _ _ ⟨_,rfl,_⟩ _|rintro _ _ _ _ _ ⟨_,_,_,_,rfl,rfl,_,_⟩ _|intro _ _ _ _ _ _ _))|(refine sx ?_;intro _ _)|((with_reducible refine g_awp ?_);simp only [g0,g1,g2]))
    · rw [if_neg (by assumption)] at hos
      have hlen : (ords l i).length ≤ i := by
        unfold ords
        rw [List.length_map]
        have := List.length_filter_le (fun j => decide (linAt l j ≠ -1)) (List.range i)
        simpa using this
      refine app1 (n := h.n + 1) (xs := ords l i) (Fx := G) (a := (i : Int)) slr_auto ⟨rfl, rfl⟩ (by rw [List.append_nil]; exact ol_auto) om_auto rfl (by omega) (by omega) ?_
      intro u' h' F' ek kp r' o'
      have n3 := kp.1
      simp only [push_n] at n3
      (repeat' first|refine vs ?_|(refine br ?_ ?_<;>intro _<;>try(exfalso;first|omega|contradiction))|((with_reducible refine g_idx ?_);((first|refine ix ?_|refine ixi ?_|(refine ixg ?_;intro _ _)|(refine ixgi ?_;intro _ _));first|rintro _ _ _ _ _ ⟨rfl,rfl⟩ _|rintro _ _ _ _ _ ⟨_,rfl,_⟩ _|rintro _ _ _ _ _ ⟨_,_,_,_,rfl,rfl,_,_⟩ _|intro _ _ _ _ _ _ _))|(refine sx ?_;intro _ _)|((with_reducible refine g_awp ?_);simp only [g0,g1,g2]))
      exact ⟨by omega, _, _, rfl, by omega, ek h ext_auto (by omega), bk_auto, by omega, by rw [hos]; exact r', o'⟩
    · rw [if_pos (by omega)] at hos
      exact ⟨by omega, _, _, rfl, by omega, ext_auto, bk_auto, by simp only [push_n]; omega, by rw [hos]; exact slr_auto, ol_auto⟩
  · have hl : i = l.length := by omega
    subst hl
    (repeat' first|refine vs ?_|(refine br ?_ ?_<;>intro _<;>try(exfalso;first|omega|contradiction))|((with_reducible refine g_idx ?_);((first|refine ix ?_|refine ixi ?_|(refine ixg ?_;intro _ _)|(refine ixgi ?_;intro _ _));first|rintro _ _ _ _ _ ⟨rfl,rfl⟩ _|rintro _ _ _ _ _ ⟨_,rfl,_⟩ _|rintro _ _ _ _ _ ⟨_,_,_,_,rfl,rfl,_,_⟩ _|intro _ _ _ _ _ _ _))|(refine sx ?_;intro _ _)|((with_reducible refine g_awp ?_);simp only [g0,g1,g2]))
    have hin := ords_in (l := l) (Nat.le_refl _)
    refine aw_call (sort_int (key := okey l) (U0 := fun x => 0 ≤ x ∧ x.toNat < l.length) ru ou ?_ hin) ?_
    · refine ⟨n_impl_Order_1, [.ptr h.n 0], rfl, fun h2 k2 x y cx cy Fx Fy hx hy rx ry => ?_⟩
      obtain ⟨rfl, _⟩ := rx
      obtain ⟨rfl, _⟩ := ry
      have rl : SlRep h2 v l F := slr_kp1 k2 (r.ext e1) (dis_own r ou (by omega))
      exact s_impl_Order_1 (at_bk (bk_kp1 k2 b1 (nin_own ou (by omega)))) rl hx hy
    · rintro _ h2 ⟨k2, F2, p2, r2, o2⟩
      (repeat' first|refine vs ?_|(refine br ?_ ?_<;>intro _<;>try(exfalso;first|omega|contradiction))|((with_reducible refine g_idx ?_);((first|refine ix ?_|refine ixi ?_|(refine ixg ?_;intro _ _)|(refine ixgi ?_;intro _ _));first|rintro _ _ _ _ _ ⟨rfl,rfl⟩ _|rintro _ _ _ _ _ ⟨_,rfl,_⟩ _|rintro _ _ _ _ _ ⟨_,_,_,_,rfl,rfl,_,_⟩ _|intro _ _ _ _ _ _ _))|(refine sx ?_;intro _ _)|((with_reducible refine g_awp ?_);simp only [g0,g1,g2]))
      exact ⟨rfl, _, rfl, k2.ext e1 fun b hb => by have := (ou.2 b hb).1; omega, F2, r2, o2.mono (by omega) fun _ _ => rfl⟩
theorem s_spec_Order {h : AH} {l : List Deed} {v : AV} {F : List Nat} (hs : l.length ≤ 67108864) (r : SlRep h v l F) : ACalls Try.prog n_spec_Order [v] h (NewS Int h (orderL l)) := by
  have hsm := r.small
  refine c_spec_Order _ ?_
  unfold p_spec_Order
  obtain ⟨re, oe⟩ := empty_own (h := h) (α := Int) (w := 1) rfl
  refine vs ?_
  refine aw_upto l.length (fun i vs h1 => ∃ u G w, vs = [u, .int .i64 (i : Int), w] ∧ i ≤ l.length ∧ Ext h h1 ∧ SlRep h1 u (ssort (okey l) (ords l i)) G ∧ Own h.n h1 G) ⟨_, _, _, rfl, Nat.zero_le _, (Ext.refl _).push _, by simpa [ords, ssort] using re, oe _ (Nat.le_refl _)⟩ ?_
  rintro i vs h1 _ ⟨u, G, w, rfl, hi, e1, ru, ou⟩
  have n1 := e1.1
  simp only [g0, g1, g2]
  refine aw_len r ?_
  refine br (fun hlt => ?_) (fun hge => ?_)
  · obtain ⟨d, hd, -, -⟩ := drop_step (show i < l.length by omega)
    have hos := ords_s hd
    have hsl : (ssort (okey l) (ords l i)).length ≤ i := by
      rw [ssort_len]
      unfold ords
      rw [List.length_map]
      have := List.length_filter_le (fun j => decide (linAt l j ≠ -1)) (List.range i)
      simpa using this
    have hin : ∀ x ∈ ssort (okey l) (ords l i), 0 ≤ x ∧ x.toNat < l.length := fun x hx => ords_in (by omega) x (ssort_mem.1 hx)
    (repeat' first|refine vs ?_|(refine br ?_ ?_<;>intro _<;>try(exfalso;first|omega|contradiction))|((with_reducible refine g_idx ?_);((first|refine ix ?_|refine ixi ?_|(refine ixg ?_;intro _ _)|(refine ixgi ?_;intro _ _));first|rintro _ _ _ _ _ ⟨rfl,rfl⟩ _|rintro _ _ _ _ _ ⟨_,rfl,_⟩ _|rintro _ _ _ _ _ ⟨_,_,_,_,rfl,rfl,_,_⟩ _|intro _ _ _ _ _ _ _))|(refine sx ?_;intro _ _)|((with_reducible refine g_awp ?_);simp only [g0,g1,g2]))
    · rw [if_pos (by assumption)] at hos
      exact ⟨by omega, _, _, _, rfl, by omega, e1, by rw [hos]; exact ru, ou⟩
    · rw [if_neg (by assumption)] at hos
      refine aw_loop (fun k vs h2 => vs = [.int .i64 (k : Int)] ∧ k ≤ (ssort (okey l) (ords l i)).length ∧ h2 = h1 ∧ ∀ y ∈ (ssort (okey l) (ords l i)).drop k, okey l (i : Int) < okey l y) (ssort (okey l) (ords l i)).length ⟨rfl, Nat.le_refl _, rfl, by simp⟩ ?_
      rintro k vs h2 ⟨rfl, hk, rfl, hgt⟩
      simp only [g0, g1, g2]
      refine Prog.awp_mono (Q := fun tag vs' h' => (tag = 0 ∧ ∃ n', n' < k ∧ vs' = [.int .i64 (n' : Int)] ∧ n' ≤ (ssort (okey l) (ords l i)).length ∧ h' = h2 ∧ ∀ y ∈ (ssort (okey l) (ords l i)).drop n', okey l (i : Int) < okey l y) ∨ (tag = 4 ∧ vs' = [.int .i64 (k : Int)] ∧ h' = h2 ∧ ∀ y ∈ (ssort (okey l) (ords l i)).take k, okey l y ≤ okey l (i : Int))) _ ?_ ?_
      · refine br (fun hk0 => ?_) (fun hk0 => ?_)
        · obtain ⟨y, hy, hyd, hyt⟩ := drop_step (show ((k : Int) - 1).toNat < (ssort (okey l) (ords l i)).length by omega)
          have hyr := hin y (List.mem_of_getElem? hy)
          obtain ⟨dy, hdy, -, -⟩ := drop_step hyr.2
          have hyr1 := hyr.1
          have ek1 : okey l y = dy.lin := linAt_eq hdy
          have ek2 : okey l (i : Int) = d.lin := linAt_eq hd
          (repeat' first|refine vs ?_|(refine br ?_ ?_<;>intro _<;>try(exfalso;first|omega|contradiction))|((with_reducible refine g_idx ?_);((first|refine ix ?_|refine ixi ?_|(refine ixg ?_;intro _ _)|(refine ixgi ?_;intro _ _));first|rintro _ _ _ _ _ ⟨rfl,rfl⟩ _|rintro _ _ _ _ _ ⟨_,rfl,_⟩ _|rintro _ _ _ _ _ ⟨_,_,_,_,rfl,rfl,_,_⟩ _|intro _ _ _ _ _ _ _))|(refine sx ?_;intro _ _)|((with_reducible refine g_awp ?_);simp only [g0,g1,g2]))
          · refine .inl ⟨rfl, k - 1, by omega, by congr 2; omega, by omega, rfl, fun z hz => ?_⟩
            rw [show k - 1 = ((k : Int) - 1).toNat by omega, hyd] at hz
            rcases List.mem_cons.1 hz with e | e
            · rw [e, ek1, ek2]; assumption
            · rw [show ((k : Int) - 1).toNat + 1 = k by omega] at e; exact hgt z e
          · refine .inr ⟨rfl, rfl, rfl, fun z hz => ?_⟩
            obtain ⟨t, ht⟩ := List.mem_iff_getElem?.1 hz
            rw [List.getElem?_take] at ht
            split at ht
            · have := (ssort_srt (key := okey l) (xs := ords l i)).at_ (show t ≤ ((k : Int) - 1).toNat by omega) ht hy
              omega
            · cases ht
        · (repeat' first|refine vs ?_|(refine br ?_ ?_<;>intro _<;>try(exfalso;first|omega|contradiction))|((with_reducible refine g_idx ?_);((first|refine ix ?_|refine ixi ?_|(refine ixg ?_;intro _ _)|(refine ixgi ?_;intro _ _));first|rintro _ _ _ _ _ ⟨rfl,rfl⟩ _|rintro _ _ _ _ _ ⟨_,rfl,_⟩ _|rintro _ _ _ _ _ ⟨_,_,_,_,rfl,rfl,_,_⟩ _|intro _ _ _ _ _ _ _))|(refine sx ?_;intro _ _)|((with_reducible refine g_awp ?_);simp only [g0,g1,g2]))
          have : k = 0 := by omega
          subst this
          exact .inr ⟨rfl, rfl, rfl, by simp⟩
      rintro t vs' h' (⟨rfl, n', h1', rfl, h3', rfl, h4'⟩ | ⟨rfl, rfl, rfl, hlo⟩)
      · exact aw_nexts ⟨n', h1', rfl, h3', rfl, h4'⟩
      refine aw_ends (by decide) (aw_tsel_ne (by decide) (aw_tsel_eq ?_))
      obtain ⟨re2, oe2⟩ := empty_own (h := h') (α := Int) (w := 1) rfl
      obtain ⟨u1, u2, B, E1, E2, eF, q1, t1, q2, t2, s1, s2⟩ := ru.cut (P := Try.prog) ou hk
      have ltF := ru.lt
      rw [eF] at ltF ou
      refine vs ?_
      refine aw_go (s1 _ _ (fun c hc => (Ext.refl h').push _ |>.2 c (ltF c (by simp [hc]))) ?_)
      refine w_bs (by rfl) (by decide) (by rfl) ?_
      refine aw_go (s2 _ _ (fun c hc => (((Ext.refl h').push _).push _).2 c (ltF c (by simp [hc]))) ?_)
      have hins : ssort (okey l) (ords l (i + 1)) = (ssort (okey l) (ords l i)).take k ++ (i : Int) :: (ssort (okey l) (ords l i)).drop k := by
        rw [hos, ssort_snoc, ← ins_mid hlo hgt, List.take_append_drop]
      have rm : SlRep ((h'.push ⟨[], 1, 0⟩).push ⟨[.int .i64 (i : Int)], 1, 0⟩) (.sl (h'.push ⟨[], 1, 0⟩).n 0 1) [(i : Int)] [(h'.push ⟨[], 1, 0⟩).n] := slrep_push (n := 1) (xs := [(i : Int)]) rfl (by decide) (reps_one ⟨rfl, rfl⟩)
      refine chain (n := h.n) (h0 := h) (fun p => .chk (.bslice 1 1 [AV.int .i64 0] [(0, 1, .int .i64 (i : Int))]) (.sl (h'.push ⟨[], 1, 0⟩).n 0 1) (.chk (.slc 1 u (some (.int .i64 (k : Int))) none none) u2 p)) (fun p => .chk (.slc 1 u (some (.int .i64 (k : Int))) none none) u2 p) (slr_push1 re2) ((oe2 h.n n1).ext ((Ext.refl _).push _) (by simp)) (q1.ext (((Ext.refl h').push _).push _)) t1 (q2.ext (((Ext.refl h').push _).push _)) t2 rm ?_ ?_ ?_ (by simp only [push_n]; omega) rfl ?_ ?_ ((e1.push _).push _) (Nat.le_refl _) ?_ ?_ ?_
      · rw [List.append_nil]
        exact ou.ext (((Ext.refl h').push _).push _) ltF
      · intro hm
        have hn2 : (h'.push ⟨[], 1, 0⟩).n = h'.n + 1 := rfl
        simp only [List.mem_append, List.mem_singleton, or_assoc] at hm
        rcases hm with g | g | g | g
        · exact Nat.lt_irrefl _ (ltF _ (by simp [g]))
        · exact Nat.lt_irrefl _ (ltF _ (by simp [g]))
        · exact Nat.lt_irrefl _ (ltF _ (by simp [g]))
        · omega
      · intro hm
        have hn2 : (h'.push ⟨[], 1, 0⟩).n = h'.n + 1 := rfl
        rw [List.append_nil] at hm
        have := ltF _ hm
        omega
      · simp only [List.length_take, List.length_drop]; omega
      · simp only [List.length_take, List.length_drop]; omega
      · intro h3 p k3 hp
        have em : h3.get (h'.push ⟨[], 1, 0⟩).n = ⟨[.int .i64 (i : Int)], 1, 0⟩ := by
          rw [k3.2 _ (by simp) (by simp)]; simp [splice]
        refine aw_chk ⟨rfl, by decide, rfl, by rw [em]; rfl, by rw [em], by rw [em]⟩ (aw_chk (s2 h3 (fun v' h2 => v' = u2 ∧ h2 = h3) (fun c hc => ?_) ⟨rfl, rfl⟩) hp)
        have hcn := ltF c (by simp [hc])
        rw [k3.2 c (by simp only [push_n]; omega) (fun hm => by have := List.mem_singleton.1 hm; omega)]
        exact (((Ext.refl h').push _).push _).2 c hcn
      · intro h4 p hB hp
        exact aw_chk (s2 h4 (fun v' h2 => v' = u2 ∧ h2 = h4) (fun c hc => by rw [hB c hc]; exact (((Ext.refl h').push _).push _).2 c (ltF c (by simp [hc]))) ⟨rfl, rfl⟩) hp
      · intro v5 h5 F5 e5 r5 o5 n5
        (repeat' first|refine vs ?_|(refine br ?_ ?_<;>intro _<;>try(exfalso;first|omega|contradiction))|((with_reducible refine g_idx ?_);((first|refine ix ?_|refine ixi ?_|(refine ixg ?_;intro _ _)|(refine ixgi ?_;intro _ _));first|rintro _ _ _ _ _ ⟨rfl,rfl⟩ _|rintro _ _ _ _ _ ⟨_,rfl,_⟩ _|rintro _ _ _ _ _ ⟨_,_,_,_,rfl,rfl,_,_⟩ _|intro _ _ _ _ _ _ _))|(refine sx ?_;intro _ _)|((with_reducible refine g_awp ?_);simp only [g0,g1,g2]))
        exact ⟨by omega, _, _, _, rfl, by omega, e5, by rw [hins]; exact r5, o5⟩
  · have hl : i = l.length := by omega
    subst hl
    (repeat' first|refine vs ?_|(refine br ?_ ?_<;>intro _<;>try(exfalso;first|omega|contradiction))|((with_reducible refine g_idx ?_);((first|refine ix ?_|refine ixi ?_|(refine ixg ?_;intro _ _)|(refine ixgi ?_;intro _ _));first|rintro _ _ _ _ _ ⟨rfl,rfl⟩ _|rintro _ _ _ _ _ ⟨_,rfl,_⟩ _|rintro _ _ _ _ _ ⟨_,_,_,_,rfl,rfl,_,_⟩ _|intro _ _ _ _ _ _ _))|(refine sx ?_;intro _ _)|((with_reducible refine g_awp ?_);simp only [g0,g1,g2]))
    exact ⟨rfl, _, rfl, e1, G, ru, ou⟩
end Go.Proofs.Ytpcgbddmdipfbaa
