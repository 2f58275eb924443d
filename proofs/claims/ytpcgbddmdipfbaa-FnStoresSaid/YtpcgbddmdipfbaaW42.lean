/- Open trails, in order. -/
import Derived.Test.YtpcgbddmdipfbaaW11
import Derived.Test.YtpcgbddmdipfbaaW40
import Derived.Test.YtpcgbddmdipfbaaAb51
import Derived.Test.YtpcgbddmdipfbaaAb46
set_option linter.unusedSimpArgs false
set_option linter.unusedVariables false
set_option maxHeartbeats 2000000
namespace Go.Proofs.Ytpcgbddmdipfbaa
open Go Go.Ab
section
/- impl.OpenTrails$1 -/
def p_impl_OpenTrails_1 (x0 x1 : AV) : Prog := .op (.box x0) fun v1 => .op (.box x1) fun v2 => .op (.fad 0 v1) fun v3 => .op (.ld1 v3) fun v4 => .op (.fad 0 v2) fun v5 => .op (.ld1 v5) fun v6 => .op (.call n_cmp_Compare_int [v4, v6]) fun v7 => .fin [.val v7]
theorem c_impl_OpenTrails_1 (x0 x1 : AV) : CC Try.prog n_impl_OpenTrails_1 [x0, x1] (p_impl_OpenTrails_1 x0 x1) := cc Try.func143 [] (fun _ => []) (by kernel_rfl)
/- impl.OpenTrails -/
def p_impl_OpenTrails (x0 : AV) : Prog := .op (.call n_impl_allTrails [x0]) fun v1 => .op (.call n_slices_SortStableFunc_Trail [v1, AV.fn n_impl_OpenTrails_1 []]) fun v2 => .fin [.val v1]
theorem c_impl_OpenTrails (x0 : AV) : CC Try.prog n_impl_OpenTrails [x0] (p_impl_OpenTrails x0) := cc Try.func34 [] (fun _ => []) (by kernel_rfl)
/- spec.OpenTrails -/
def p_spec_OpenTrails (x0 : AV) : Prog := .op (.bslice 4 0 [] []) fun v1 => .loop [v1, AV.int .i64 0, .tup [], .tup [], .tup []] (fun vs2 => .op (.len 0 x0) fun v4 => .op (.bin 0 .lss (g vs2 1) v4) fun v5 => .ite v5 (.loop [g vs2 0, AV.int .i64 0, g vs2 3, g vs2 4] (fun vs6 => .op (.idx 2 x0 (g vs2 1)) fun v8 => .op (.fad 1 v8) fun v9 => .op (.ld1 v9) fun v10 => .op (.len 0 v10) fun v11 => .op (.bin 0 .lss (g vs6 1) v11) fun v12 => .ite v12 (.op (.idx 2 x0 (g vs2 1)) fun v13 => .op (.fad 1 v13) fun v14 => .op (.ld1 v14) fun v15 => .op (.idx 4 v15 (g vs6 1)) fun v16 => .op (.ldn 4 v16) fun v17 => .op (.call n_spec_l10Copy [v17]) fun v18 => .op (.alloc [AV.int .i64 0, AV.int .i64 0, AV.int .i64 0, AV.nils]) fun v19 => .op (.st 4 v19 v18) fun v20 => .op (.len 0 (g vs6 0)) fun v21 => .loop [v21] (fun vs22 => .op (.bin 0 .gtr (g vs22 0) (AV.int .i64 0)) fun v24 => .gop v24 true (.mv (g vs6 0)) fun v25 => .gop v24 true (.mv (g vs22 0)) fun v26 => .gop v24 true (.bin 0 .sub v26 (AV.int .i64 1)) fun v27 => .gop v24 true (.idx 4 v25 v27) fun v28 => .gop v24 true (.fad 0 v28) fun v29 => .gop v24 true (.ld1 v29) fun v30 => .gop v24 true (.fad 0 v19) fun v31 => .gop v24 true (.ld1 v31) fun v32 => .gop v24 true (.bin 0 .gtr v30 v32) fun v33 => .op (.pick v24 v33 (AV.bool false)) fun v34 => .ite v34 (.op (.bin 0 .sub (g vs22 0) (AV.int .i64 1)) fun v35 => .leaf 0 [v35]) (.leaf 6 [g vs22 0])) fun t23 vs22 => tsel t23 1 (.leaf 1 vs22) (tsel t23 6 (.op (.bslice 4 0 [] []) fun v36 => .op (.slc 4 (g vs6 0) none (some (g vs22 0)) none) fun v37 => .op (.ldn 4 v19) fun v38 => .op (.bslice 4 1 [AV.int .i64 0, AV.int .i64 0, AV.int .i64 0, AV.nils] [(0, 4, v38)]) fun v39 => .op (.slc 4 (g vs6 0) (some (g vs22 0)) none none) fun v40 => .op (.app 4 48 v36 v37) fun v41 => .chk (.ldn 4 v19) v38 (.chk (.bslice 4 1 [AV.int .i64 0, AV.int .i64 0, AV.int .i64 0, AV.nils] [(0, 4, v38)]) v39 (.chk (.slc 4 (g vs6 0) (some (g vs22 0)) none none) v40 (.op (.app 4 48 v41 v39) fun v42 => .chk (.slc 4 (g vs6 0) (some (g vs22 0)) none none) v40 (.op (.app 4 48 v42 v40) fun v43 => .op (.bin 0 .add (g vs6 1) (AV.int .i64 1)) fun v44 => .leaf 0 [v43, v44, v19, g vs22 0]))))) .bad)) (.leaf 4 [g vs6 0, g vs6 1, g vs6 2, g vs6 3])) fun t7 vs6 => tsel t7 1 (.leaf 1 vs6) (tsel t7 4 (.op (.bin 0 .add (g vs2 1) (AV.int .i64 1)) fun v45 => .leaf 0 [g vs6 0, v45, g vs6 1, g vs6 2, g vs6 3]) .bad)) (.leaf 2 [g vs2 0, g vs2 1, g vs2 2, g vs2 3, g vs2 4])) fun t3 vs2 => tsel t3 1 (.leaf 1 vs2) (tsel t3 2 (.fin [.val (g vs2 0)]) .bad)
theorem c_spec_OpenTrails (x0 : AV) : CC Try.prog n_spec_OpenTrails [x0] (p_spec_OpenTrails x0) := cc Try.func32 [0, 3, 4, 5, 6, 7] (fun r => if r = 10 then [(0, []), (1, []), (2, []), (3, []), (4, []), (5, []), (6, []), (7, []), (8, []), (9, []), (10, []), (11, []), (12, [])] else if r = 12 then [(0, []), (1, []), (2, []), (3, []), (5, []), (6, []), (8, []), (9, []), (10, []), (4, [5, 6, 10]), (7, [10]), (11, []), (12, [])] else []) (by kernel_rfl)
end
def openT (l : List Stripe) : List Trail := ssort Trail.id (allT l)
theorem ins_szs {α : Type} [Sz α] {key : α → Int} {x : α} : ∀ l : List α, szs (ins key x l) = Sz.sz x + szs l
  | [] => by simp [ins, szs]
  | y :: l => by
    unfold ins
    split
    · simp [szs]
    · simp only [szs, ins_szs l]; omega
theorem ssort_szs {α : Type} [Sz α] {key : α → Int} (l : List α) : szs (ssort key l) = szs l := by
  have go : ∀ (l acc : List α), szs (l.foldl (fun acc x => ins key x acc) acc) = szs acc + szs l := by
    intro l
    induction l with
    | nil => intro acc; simp [szs]
    | cons x l ih => intro acc; rw [List.foldl_cons, ih, ins_szs]; simp only [szs]; omega
  have := go l []
  simpa [ssort, szs] using this
theorem openT_sz (l : List Stripe) : (openT l).length + szs (openT l) ≤ szs l := by
  unfold openT
  rw [ssort_len, ssort_szs]
  exact allT_b l
theorem s_impl_OpenTrails_1 {h : AH} {x y : Trail} {v w : AV} : RCalls Try.prog n_impl_OpenTrails_1 [.agg (x.cs v), .agg (y.cs w)] h (.int .i64 (cmpI x.id y.id)) := by
  refine reader (c_impl_OpenTrails_1 _ _) (by simp only [old]) ?_
  unfold p_impl_OpenTrails_1
  (repeat' first|refine vs ?_|(refine br ?_ ?_<;>intro _<;>try(exfalso;first|omega|contradiction))|((with_reducible refine g_callf n_cmp_Compare_int ?_);refine aw_rcall s_cmp_Compare_int ?_)|((with_reducible refine g_idx ?_);((first|refine ix ?_|refine ixi ?_|(refine ixg ?_;intro _ _)|(refine ixgi ?_;intro _ _));first|rintro _ _ _ _ _ ⟨rfl,rfl⟩ _|rintro _ _ _ _ _ ⟨_,rfl,_⟩ _|rintro _ _ _ _ _ ⟨_,_,_,_,rfl,rfl,_,_⟩ _|intro _ _ _ _ _ _ _))|(refine sx ?_;intro _ _)|((with_reducible refine g_awp ?_);simp only [g0,g1,g2]))
  exact pi rfl
theorem s_impl_OpenTrails {h : AH} {l : List Stripe} {v : AV} {F : List Nat} (hs : l.length + szs l ≤ 67108864) (r : SlRep h v l F) : ACalls Try.prog n_impl_OpenTrails [v] h (NewS Trail h (openT l)) := by
  refine c_impl_OpenTrails _ ?_
  unfold p_impl_OpenTrails
  refine aw_call (s_impl_allTrails hs r) ?_
  rintro u h1 ⟨e1, G, ru, ou⟩
  refine aw_call (sort_Trail (key := Trail.id) (U0 := fun _ => True) ru ou ?_ (fun _ _ => trivial)) ?_
  · refine ⟨n_impl_OpenTrails_1, [], rfl, fun h2 k2 x y cx cy Fx Fy _ _ rx ry => ?_⟩
    obtain ⟨vx, rfl, _⟩ := rx
    obtain ⟨vy, rfl, _⟩ := ry
    exact s_impl_OpenTrails_1
  · rintro _ h2 ⟨k2, F2, p2, r2, o2⟩
    exact aw_fin1 ⟨rfl, _, rfl, k2.ext e1 fun b hb => (ou.2 b hb).1, F2, r2, o2⟩
theorem s_spec_OpenTrails {h : AH} {l : List Stripe} {v : AV} {F : List Nat} (hs : l.length + szs l ≤ 67108864) (r : SlRep h v l F) : ACalls Try.prog n_spec_OpenTrails [v] h (NewS Trail h (openT l)) := by
  have hsm := r.small
  refine c_spec_OpenTrails _ ?_
  unfold p_spec_OpenTrails
  obtain ⟨re, oe⟩ := empty_own (h := h) (α := Trail) (w := 4) rfl
  refine vs ?_
  refine aw_upto l.length (fun i vs h1 => ∃ u G w2 w3 w4, vs = [u, .int .i64 (i : Int), w2, w3, w4] ∧ i ≤ l.length ∧ Ext h h1 ∧ SlRep h1 u (ssort Trail.id (allT (l.take i))) G ∧ Own h.n h1 G) ⟨_, _, _, _, _, rfl, Nat.zero_le _, (Ext.refl _).push _, by simpa [allT, ssort] using re, oe _ (Nat.le_refl _)⟩ ?_
  rintro i vs h1 _ ⟨u, G, w2, w3, w4, rfl, hi, e1, ru, ou⟩
  have n1 := e1.1
  simp only [g0, g1, g3, g4]
  refine aw_len r ?_
  refine br (fun hlt => ?_) (fun hge => ?_)
  · obtain ⟨x, hx, -, htk⟩ := drop_step (show i < l.length by omega)
    have hm := szs_mem (List.mem_of_getElem? hx)
    have hx2 : Sz.sz x = x.l.length + szs x.l := rfl
    have hall := allT_b (l.take (i + 1))
    have hl2 : szs (l.take (i + 1)) ≤ szs l := by
      have := szs_app (l.take (i + 1)) (l.drop (i + 1))
      rw [List.take_append_drop] at this; omega
    rw [allT_s htk, List.length_append] at hall
    refine vs ?_
    refine aw_upto x.l.length (fun k vs h2 => ∃ u G w2 w3, vs = [u, .int .i64 (k : Int), w2, w3] ∧ k ≤ x.l.length ∧ Ext h h2 ∧ SlRep h2 u (ssort Trail.id (allT (l.take i) ++ x.l.take k)) G ∧ Own h.n h2 G) ⟨u, G, _, _, rfl, Nat.zero_le _, e1, by simpa using ru, ou⟩ ?_
    clear ru ou
    rintro k vs h2 _ ⟨u, G, w2, w3, rfl, hk, e2, ru, ou⟩
    have n2 := e2.1
    simp only [g0, g1, g2, g3]
    refine aw_idx r hx rfl ?_
    rintro b o _ Fi a ⟨vx, rfl, rx⟩ _
    refine vs ?_
    refine br (fun hlt2 => ?_) (fun hge2 => ?_)
    · obtain ⟨t, ht, -, htk2⟩ := drop_step (show k < x.l.length by omega)
      have hm2 := szs_mem (List.mem_of_getElem? ht)
      (repeat' first|refine vs ?_|(refine br ?_ ?_<;>intro _<;>try(exfalso;first|omega|contradiction))|((with_reducible refine g_callf n_spec_l10Copy ?_);(refine aw_call (s_spec_l10Copy t (by omega) _ _ _ ⟨_, rfl, slr_auto⟩) ?_; rintro _ h3 ⟨e3, _, G2, rfl, ⟨w5, rfl, q2⟩, o2⟩; have n3 := e3.1; (try simp only [push_n, upd_n] at n3)))|((with_reducible refine g_idx ?_);((first|refine ix ?_|refine ixi ?_|(refine ixg ?_;intro _ _)|(refine ixgi ?_;intro _ _));first|rintro _ _ _ _ _ ⟨rfl,rfl⟩ _|rintro _ _ _ _ _ ⟨_,rfl,_⟩ _|rintro _ _ _ _ _ ⟨_,_,_,_,rfl,rfl,_,_⟩ _|intro _ _ _ _ _ _ _))|(refine sx ?_;intro _ _)|((with_reducible refine g_awp ?_);simp only [g0,g1,g2]))
      obtain ⟨H, hH⟩ : ∃ H, H = h3.push ⟨[.int .i64 t.id, .int .i64 t.stamp, .int .i64 t.first, w5], 0, 0⟩ := ⟨_, rfl⟩
      rw [← hH]
      have bt : Bk H h3.n (t.cs w5) 0 := by rw [hH]; exact bk_push
      have nH : H.n = h3.n + 1 := by rw [hH]; rfl
      have eH : Ext h2 H := by rw [hH]; exact e3.push _
      have qH : SlRep H w5 t.spans G2 := by rw [hH]; exact slr_push1 q2
      have oH : Own h2.n H G2 := by rw [hH]; exact o2.ext ((Ext.refl _).push _) q2.lt
      clear hH q2 o2
      have ruH := ru.ext eH
      have ouH : Own h.n H G := ou.ext eH ru.lt
      have olt : ∀ c ∈ G, c < h2.n := ru.lt
      have eHH : Ext h H := e2.trans eH
      clear ru ou e3 e2
      have hsn : ssort Trail.id (allT (l.take i) ++ x.l.take (k + 1)) = ins Trail.id t (ssort Trail.id (allT (l.take i) ++ x.l.take k)) := by
        rw [htk2, ← List.append_assoc, ssort_snoc]
      have hsl : (ssort Trail.id (allT (l.take i) ++ x.l.take k)).length ≤ 67108864 := by
        rw [ssort_len, List.length_append, List.length_take]; omega
      have hsrt : Srt Trail.id (ssort Trail.id (allT (l.take i) ++ x.l.take k)) := ssort_srt
      obtain ⟨S, hS⟩ : ∃ S, S = ssort Trail.id (allT (l.take i) ++ x.l.take k) := ⟨_, rfl⟩
      rw [← hS] at ruH hsn hsl hsrt ⊢
      clear hS
      refine aw_loop (fun j vs h4 => vs = [.int .i64 (j : Int)] ∧ j ≤ S.length ∧ h4 = H ∧ ∀ y ∈ S.drop j, t.id < y.id) S.length ⟨rfl, Nat.le_refl _, rfl, by simp⟩ ?_
      rintro j vs h4 ⟨rfl, hj, rfl, hgt⟩
      simp only [g0, g1, g2]
      refine Prog.awp_mono (Q := fun tag vs' h' => (tag = 0 ∧ ∃ n', n' < j ∧ vs' = [.int .i64 (n' : Int)] ∧ n' ≤ S.length ∧ h' = h4 ∧ ∀ y ∈ S.drop n', t.id < y.id) ∨ (tag = 6 ∧ vs' = [.int .i64 (j : Int)] ∧ h' = h4 ∧ ∀ y ∈ S.take j, y.id ≤ t.id)) _ ?_ ?_
      · refine br (fun hk0 => ?_) (fun hk0 => ?_)
        · obtain ⟨y, hy, hyd, hyt⟩ := drop_step (show ((j : Int) - 1).toNat < S.length by omega)
          (repeat' first|refine vs ?_|(refine br ?_ ?_<;>intro _<;>try(exfalso;first|omega|contradiction))|((with_reducible refine g_idx ?_);((first|refine ix ?_|refine ixi ?_|(refine ixg ?_;intro _ _)|(refine ixgi ?_;intro _ _));first|rintro _ _ _ _ _ ⟨rfl,rfl⟩ _|rintro _ _ _ _ _ ⟨_,rfl,_⟩ _|rintro _ _ _ _ _ ⟨_,_,_,_,rfl,rfl,_,_⟩ _|intro _ _ _ _ _ _ _))|(refine sx ?_;intro _ _)|((with_reducible refine g_awp ?_);simp only [g0,g1,g2]))
          · refine .inl ⟨rfl, j - 1, by omega, by congr 2; omega, by omega, rfl, fun z hz => ?_⟩
            rw [show j - 1 = ((j : Int) - 1).toNat by omega, hyd] at hz
            rcases List.mem_cons.1 hz with e | e
            · rw [e]; assumption
            · rw [show ((j : Int) - 1).toNat + 1 = j by omega] at e; exact hgt z e
          · refine .inr ⟨rfl, rfl, rfl, fun z hz => ?_⟩
            obtain ⟨q, hq⟩ := List.mem_iff_getElem?.1 hz
            rw [List.getElem?_take] at hq
            split at hq
            · have := hsrt.at_ (show q ≤ ((j : Int) - 1).toNat by omega) hq hy
              omega
            · cases hq
        · (repeat' first|refine vs ?_|(refine br ?_ ?_<;>intro _<;>try(exfalso;first|omega|contradiction))|((with_reducible refine g_idx ?_);((first|refine ix ?_|refine ixi ?_|(refine ixg ?_;intro _ _)|(refine ixgi ?_;intro _ _));first|rintro _ _ _ _ _ ⟨rfl,rfl⟩ _|rintro _ _ _ _ _ ⟨_,rfl,_⟩ _|rintro _ _ _ _ _ ⟨_,_,_,_,rfl,rfl,_,_⟩ _|intro _ _ _ _ _ _ _))|(refine sx ?_;intro _ _)|((with_reducible refine g_awp ?_);simp only [g0,g1,g2]))
          have : j = 0 := by omega
          subst this
          exact .inr ⟨rfl, rfl, rfl, by simp⟩
      rintro tg vs' h' (⟨rfl, n', h1', rfl, h3', rfl, h4'⟩ | ⟨rfl, rfl, rfl, hlo⟩)
      · exact aw_nexts ⟨n', h1', rfl, h3', rfl, h4'⟩
      refine aw_ends (by decide) (aw_tsel_ne (by decide) (aw_tsel_eq ?_))
      obtain ⟨re2, oe2⟩ := empty_own (h := h') (α := Trail) (w := 4) rfl
      obtain ⟨u1, u2, B, E1, E2, eF, q1, t1, q2, t2, s1, s2⟩ := ruH.cut (P := Try.prog) ouH hj
      have ltF := ruH.lt
      rw [eF] at ltF ouH olt
      have ltG := qH.lt
      refine vs ?_
      refine aw_go (s1 _ _ (fun c hc => (Ext.refl h').push _ |>.2 c (ltF c (by simp [hc]))) ?_)
      have bt1 : Bk (h'.push ⟨[], 4, 0⟩) h3.n (t.cs w5) 0 := bk_auto
      (repeat' first|refine vs ?_|(refine br ?_ ?_<;>intro _<;>try(exfalso;first|omega|contradiction))|((with_reducible refine g_idx ?_);((first|refine ix ?_|refine ixi ?_|(refine ixg ?_;intro _ _)|(refine ixgi ?_;intro _ _));first|rintro _ _ _ _ _ ⟨rfl,rfl⟩ _|rintro _ _ _ _ _ ⟨_,rfl,_⟩ _|rintro _ _ _ _ _ ⟨_,_,_,_,rfl,rfl,_,_⟩ _|intro _ _ _ _ _ _ _))|(refine sx ?_;intro _ _)|((with_reducible refine g_awp ?_);simp only [g0,g1,g2]))
      refine aw_go (s2 _ _ (fun c hc => (((Ext.refl h').push _).push _).2 c (ltF c (by simp [hc]))) ?_)
      have hins : ssort Trail.id (allT (l.take i) ++ x.l.take (k + 1)) = S.take j ++ t :: S.drop j := by
        rw [hsn, ← ins_mid hlo hgt, List.take_append_drop]
      have rm : SlRep ((h'.push ⟨[], 4, 0⟩).push ⟨[.int .i64 t.id, .int .i64 t.stamp, .int .i64 t.first, w5], 4, 0⟩) (.sl (h'.push ⟨[], 4, 0⟩).n 0 1) [t] ((h'.push ⟨[], 4, 0⟩).n :: G2) := slrep_push (n := 1) (xs := [t]) rfl (by decide) (reps_one ⟨w5, rfl, qH.ext ((Ext.refl h').push _)⟩)
      have bt2 : Bk ((h'.push ⟨[], 4, 0⟩).push ⟨[.int .i64 t.id, .int .i64 t.stamp, .int .i64 t.first, w5], 4, 0⟩) h3.n (t.cs w5) 0 := bk_push1 bt1
      have bm : Bk ((h'.push ⟨[], 4, 0⟩).push ⟨[.int .i64 t.id, .int .i64 t.stamp, .int .i64 t.first, w5], 4, 0⟩) (h'.push ⟨[], 4, 0⟩).n (t.cs w5) 4 := bk_push
      have lt2 : ∀ c ∈ G2, h2.n ≤ c ∧ c < h'.n := fun c hc => ⟨(oH.2 c hc).1, ltG c hc⟩
      refine chain (n := h.n) (h0 := h) (fun p => .chk (.ldn 4 (.ptr h3.n 0)) (.agg (t.cs w5)) (.chk (.bslice 4 1 [.int .i64 0, .int .i64 0, .int .i64 0, .nils] [(0, 4, .agg (t.cs w5))]) (.sl (h'.push ⟨[], 4, 0⟩).n 0 1) (.chk (.slc 4 u (some (.int .i64 (j : Int))) none none) u2 p))) (fun p => .chk (.slc 4 u (some (.int .i64 (j : Int))) none none) u2 p) (slr_push1 re2) ((oe2 h.n (by omega)).ext ((Ext.refl _).push _) (by simp)) (q1.ext (((Ext.refl h').push _).push _)) t1 (q2.ext (((Ext.refl h').push _).push _)) t2 rm ?_ ?_ ?_ (by simp only [push_n]; omega) rfl ?_ ?_ ((eHH.push _).push _) (Nat.le_refl _) ?_ ?_ ?_
      · refine own_app (ouH.ext (((Ext.refl h').push _).push _) ltF) (oH.ext (((Ext.refl h').push _).push _) ltG) n2 fun c hc hc' => ?_
        have := olt c hc
        have := (lt2 c hc').1
        omega
      · intro hm
        have hn2 : (h'.push ⟨[], 4, 0⟩).n = h'.n + 1 := rfl
        rcases List.mem_append.1 hm with g | g
        · exact Nat.lt_irrefl _ (ltF _ g)
        · rcases List.mem_cons.1 g with g | g
          · omega
          · have := (lt2 _ g).2; omega
      · intro hm
        have hn2 : (h'.push ⟨[], 4, 0⟩).n = h'.n + 1 := rfl
        rcases List.mem_append.1 hm with g | g
        · have := ltF _ g; omega
        · have := (lt2 _ g).2; omega
      · simp only [List.length_take, List.length_drop]; omega
      · simp only [List.length_take, List.length_drop]; omega
      · intro h5 p k3 hp
        refine aw_chk_ldn (at_bk (bk_kp1 k3 bt2 (by simp; omega))) (Ext.refl _) (by decide) rfl rfl ?_
        refine w_chkb (bk_kp1 k3 bm (by simp)) (by rfl) (by decide) (by rfl) ?_
        refine aw_chk (s2 h5 (fun v' h2 => v' = u2 ∧ h2 = h5) (fun c hc => ?_) ⟨rfl, rfl⟩) hp
        have hcn := ltF c (by simp [hc])
        rw [k3.2 c (by simp only [push_n]; omega) (fun hm => by have := List.mem_singleton.1 hm; omega)]
        exact (((Ext.refl h').push _).push _).2 c hcn
      · intro h4 p hB hp
        exact aw_chk (s2 h4 (fun v' h2 => v' = u2 ∧ h2 = h4) (fun c hc => by rw [hB c hc]; exact (((Ext.refl h').push _).push _).2 c (ltF c (by simp [hc]))) ⟨rfl, rfl⟩) hp
      · intro v5 h5 F5 e5 r5 o5 n5
        (repeat' first|refine vs ?_|(refine br ?_ ?_<;>intro _<;>try(exfalso;first|omega|contradiction))|((with_reducible refine g_idx ?_);((first|refine ix ?_|refine ixi ?_|(refine ixg ?_;intro _ _)|(refine ixgi ?_;intro _ _));first|rintro _ _ _ _ _ ⟨rfl,rfl⟩ _|rintro _ _ _ _ _ ⟨_,rfl,_⟩ _|rintro _ _ _ _ _ ⟨_,_,_,_,rfl,rfl,_,_⟩ _|intro _ _ _ _ _ _ _))|(refine sx ?_;intro _ _)|((with_reducible refine g_awp ?_);simp only [g0,g1,g2]))
        exact ⟨by omega, _, _, _, _, rfl, by omega, e5, by rw [hins]; exact r5, o5⟩
    · (repeat' first|refine vs ?_|(refine br ?_ ?_<;>intro _<;>try(exfalso;first|omega|contradiction))|((with_reducible refine g_idx ?_);((first|refine ix ?_|refine ixi ?_|(refine ixg ?_;intro _ _)|(refine ixgi ?_;intro _ _));first|rintro _ _ _ _ _ ⟨rfl,rfl⟩ _|rintro _ _ _ _ _ ⟨_,rfl,_⟩ _|rintro _ _ _ _ _ ⟨_,_,_,_,rfl,rfl,_,_⟩ _|intro _ _ _ _ _ _ _))|(refine sx ?_;intro _ _)|((with_reducible refine g_awp ?_);simp only [g0,g1,g2]))
      have ek : k = x.l.length := by omega
      rw [ek, List.take_length, ← allT_s htk] at ru
      exact ⟨by omega, _, _, _, _, _, rfl, by omega, e2, ru, ou⟩
  · have hl : i = l.length := by omega
    subst hl
    rw [List.take_length] at ru
    (repeat' first|refine vs ?_|(refine br ?_ ?_<;>intro _<;>try(exfalso;first|omega|contradiction))|((with_reducible refine g_idx ?_);((first|refine ix ?_|refine ixi ?_|(refine ixg ?_;intro _ _)|(refine ixgi ?_;intro _ _));first|rintro _ _ _ _ _ ⟨rfl,rfl⟩ _|rintro _ _ _ _ _ ⟨_,rfl,_⟩ _|rintro _ _ _ _ _ ⟨_,_,_,_,rfl,rfl,_,_⟩ _|intro _ _ _ _ _ _ _))|(refine sx ?_;intro _ _)|((with_reducible refine g_awp ?_);simp only [g0,g1,g2]))
    exact ⟨rfl, _, rfl, e1, G, ru, ou⟩
end Go.Proofs.Ytpcgbddmdipfbaa
