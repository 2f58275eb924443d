/- Stripes, drawn from bytes; stripes that are the same; plain laws of stores. -/
import Derived.Test.YtpcgbddmdipfbaaW59
import Derived.Test.YtpcgbddmdipfbaaW58
import Derived.Test.YtpcgbddmdipfbaaW62
import Derived.Test.YtpcgbddmdipfbaaW42
set_option linter.unusedSimpArgs false
set_option linter.unusedVariables false
set_option maxHeartbeats 2000000
namespace Go.Proofs.Ytpcgbddmdipfbaa
open Go Go.Ab
section
/- spec.DrawStripesOk -/
def p_spec_DrawStripesOk (x0 : AV) : Prog := .op (.call n_spec_l1New [x0]) fun v1 => .op (.call n_spec_l11Any [v1]) fun v2 => .fin [.val v2]
theorem c_spec_DrawStripesOk (x0 : AV) : CC Try.prog n_spec_DrawStripesOk [x0] (p_spec_DrawStripesOk x0) := cc Try.func101 [] (fun _ => []) (by kernel_rfl)
/- spec.DrawDropTrail -/
def p_spec_DrawDropTrail (x0 : AV) : Prog := .op (.call n_spec_l1New [x0]) fun v1 => .op (.call n_spec_l11Any [v1]) fun v2 => .op (.call n_spec_l1Below [v1, AV.int .i64 9]) fun v3 => .fin [.val v2, .val v3]
theorem c_spec_DrawDropTrail (x0 : AV) : CC Try.prog n_spec_DrawDropTrail [x0] (p_spec_DrawDropTrail x0) := cc Try.func102 [] (fun _ => []) (by kernel_rfl)
/- spec.DrawFindTrail -/
def p_spec_DrawFindTrail (x0 : AV) : Prog := .op (.call n_spec_l1New [x0]) fun v1 => .op (.call n_spec_l11Any [v1]) fun v2 => .op (.call n_spec_l1Below [v1, AV.int .i64 9]) fun v3 => .fin [.val v2, .val v3]
theorem c_spec_DrawFindTrail (x0 : AV) : CC Try.prog n_spec_DrawFindTrail [x0] (p_spec_DrawFindTrail x0) := cc Try.func104 [] (fun _ => []) (by kernel_rfl)
/- spec.DrawOldestOf -/
def p_spec_DrawOldestOf (x0 : AV) : Prog := .op (.call n_spec_l1New [x0]) fun v1 => .op (.call n_spec_l11Any [v1]) fun v2 => .fin [.val v2]
theorem c_spec_DrawOldestOf (x0 : AV) : CC Try.prog n_spec_DrawOldestOf [x0] (p_spec_DrawOldestOf x0) := cc Try.func107 [] (fun _ => []) (by kernel_rfl)
/- laws.sameStripes -/
def p_laws_sameStripes (x0 x1 : AV) : Prog := .op (.len 0 x0) fun v1 => .op (.len 0 x1) fun v2 => .op (.bin 0 .neq v1 v2) fun v3 => .ite v3 (.fin [.val (AV.bool false)]) (.loop [AV.int .i64 0] (fun vs4 => .op (.len 0 x0) fun v6 => .op (.bin 0 .lss (g vs4 0) v6) fun v7 => .ite v7 (.op (.idx 2 x0 (g vs4 0)) fun v8 => .op (.fad 0 v8) fun v9 => .op (.ld1 v9) fun v10 => .op (.idx 2 x1 (g vs4 0)) fun v11 => .op (.fad 0 v11) fun v12 => .op (.ld1 v12) fun v13 => .op (.bin 0 .neq v10 v13) fun v14 => .gop v14 false (.mv x0) fun v15 => .gop v14 false (.mv (g vs4 0)) fun v16 => .gop v14 false (.idx 2 v15 v16) fun v17 => .gop v14 false (.fad 1 v17) fun v18 => .gop v14 false (.ld1 v18) fun v19 => .gop v14 false (.mv x1) fun v20 => .gop v14 false (.mv (g vs4 0)) fun v21 => .gop v14 false (.idx 2 v20 v21) fun v22 => .gop v14 false (.fad 1 v22) fun v23 => .gop v14 false (.ld1 v23) fun v24 => .gop v14 false (.call n_laws_sameTrails [v19, v24]) fun v25 => .gop v14 false (.una .not v25) fun v26 => .op (.pick v14 (AV.bool true) v26) fun v27 => .ite v27 (.fin [.val (AV.bool false)]) (.op (.bin 0 .add (g vs4 0) (AV.int .i64 1)) fun v28 => .leaf 0 [v28])) (.leaf 2 [g vs4 0])) fun t5 vs4 => tsel t5 1 (.leaf 1 vs4) (tsel t5 2 (.fin [.val (AV.bool true)]) .bad))
theorem c_laws_sameStripes (x0 x1 : AV) : CC Try.prog n_laws_sameStripes [x0, x1] (p_laws_sameStripes x0 x1) := cc Try.func112 [0, 1, 5] (fun r => if r = 6 then [(0, []), (1, []), (2, []), (3, []), (4, []), (5, []), (6, []), (7, []), (8, []), (9, []), (10, []), (11, []), (12, []), (13, []), (14, []), (15, []), (16, []), (17, []), (18, []), (19, []), (20, []), (21, []), (22, []), (23, []), (24, [])] else []) (by kernel_rfl)
end
def stA (l : List Stripe) : Prop := l.length ≤ 5 ∧ ∀ x ∈ l, seA 7 x
theorem stA_sz {l : List Stripe} (h : stA l) : l.length + szs l ≤ 300000 := by
  have h1 := szs_le (m := 42007) fun x hx => seA_sz (h.2 x hx)
  have h2 := h.1
  omega
theorem s_spec_DrawStripesOk {h : AH} {l : List UInt8} {v : AV} {F : List Nat} (hs : l.length ≤ 1048576) (r : SlRep h v l F) : ACalls Try.prog n_spec_DrawStripesOk [v] h (DwS Stripe h stA) := by
  refine c_spec_DrawStripesOk _ ?_
  unfold p_spec_DrawStripesOk
  (repeat' first|refine vs ?_|(refine br ?_ ?_<;>intro _<;>try(exfalso;first|omega|contradiction))|((with_reducible refine g_callf n_spec_l1New ?_);(refine aw_call (s_spec_l1New hs slr_auto) ?_; rintro _ h1 ⟨c, rfl, e1, lc, cu1⟩; have n1 := e1.1; (try simp only [push_n, upd_n] at n1); (try simp only [push_n, upd_n] at lc); have lc2 := cu1.lt))|((with_reducible refine g_callf n_spec_l11Any ?_);(refine aw_call (s_spec_l11Any cur_auto) ?_; rintro w h2 ⟨xs, G, ru, ou, k2, cu2, hd⟩; have n2 := k2.1; (try simp only [push_n, upd_n] at n2)))|((with_reducible refine g_idx ?_);((first|refine ix ?_|refine ixi ?_|(refine ixg ?_;intro _ _)|(refine ixgi ?_;intro _ _));first|rintro _ _ _ _ _ ⟨rfl,rfl⟩ _|rintro _ _ _ _ _ ⟨_,rfl,_⟩ _|rintro _ _ _ _ _ ⟨_,_,_,_,rfl,rfl,_,_⟩ _|intro _ _ _ _ _ _ _))|(refine sx ?_;intro _ _)|((with_reducible refine g_awp ?_);simp only [g0,g1,g2]))
  exact ⟨rfl, _, rfl, xs, G, slr_auto, ol_auto, exc_auto, hd⟩
theorem s_spec_DrawOldestOf {h : AH} {l : List UInt8} {v : AV} {F : List Nat} (hs : l.length ≤ 1048576) (r : SlRep h v l F) : ACalls Try.prog n_spec_DrawOldestOf [v] h (DwS Stripe h stA) := by
  refine c_spec_DrawOldestOf _ ?_
  unfold p_spec_DrawOldestOf
  (repeat' first|refine vs ?_|(refine br ?_ ?_<;>intro _<;>try(exfalso;first|omega|contradiction))|((with_reducible refine g_callf n_spec_l1New ?_);(refine aw_call (s_spec_l1New hs slr_auto) ?_; rintro _ h1 ⟨c, rfl, e1, lc, cu1⟩; have n1 := e1.1; (try simp only [push_n, upd_n] at n1); (try simp only [push_n, upd_n] at lc); have lc2 := cu1.lt))|((with_reducible refine g_callf n_spec_l11Any ?_);(refine aw_call (s_spec_l11Any cur_auto) ?_; rintro w h2 ⟨xs, G, ru, ou, k2, cu2, hd⟩; have n2 := k2.1; (try simp only [push_n, upd_n] at n2)))|((with_reducible refine g_idx ?_);((first|refine ix ?_|refine ixi ?_|(refine ixg ?_;intro _ _)|(refine ixgi ?_;intro _ _));first|rintro _ _ _ _ _ ⟨rfl,rfl⟩ _|rintro _ _ _ _ _ ⟨_,rfl,_⟩ _|rintro _ _ _ _ _ ⟨_,_,_,_,rfl,rfl,_,_⟩ _|intro _ _ _ _ _ _ _))|(refine sx ?_;intro _ _)|((with_reducible refine g_awp ?_);simp only [g0,g1,g2]))
  exact ⟨rfl, _, rfl, xs, G, slr_auto, ol_auto, exc_auto, hd⟩
def DwQ (h : AH) : AV → AH → Prop := fun u h' => ∃ w xs F n, u = .tup [w, .int .i64 n] ∧ SlRep (α := Stripe) h' w xs F ∧ Own h.n h' F ∧ Ext h h' ∧ stA xs
theorem s_spec_DrawDropTrail {h : AH} {l : List UInt8} {v : AV} {F : List Nat} (hs : l.length ≤ 1048576) (r : SlRep h v l F) : ACalls Try.prog n_spec_DrawDropTrail [v] h (DwQ h) := by
  refine c_spec_DrawDropTrail _ ?_
  unfold p_spec_DrawDropTrail
  (repeat' first|refine vs ?_|(refine br ?_ ?_<;>intro _<;>try(exfalso;first|omega|contradiction))|((with_reducible refine g_callf n_spec_l1New ?_);(refine aw_call (s_spec_l1New hs slr_auto) ?_; rintro _ h1 ⟨c, rfl, e1, lc, cu1⟩; have n1 := e1.1; (try simp only [push_n, upd_n] at n1); (try simp only [push_n, upd_n] at lc); have lc2 := cu1.lt))|((with_reducible refine g_callf n_spec_l11Any ?_);(refine aw_call (s_spec_l11Any cur_auto) ?_; rintro w h2 ⟨xs, G, ru, ou, k2, cu2, hd⟩; have n2 := k2.1; (try simp only [push_n, upd_n] at n2)))|((with_reducible refine g_callf n_spec_l1Below ?_);(refine aw_call (s_spec_l1Below cur_auto (by omega) (by omega)) ?_; rintro _ h2 ⟨x, rfl, hx0, hx1, k2, cu2⟩; have n2 := k2.1; (try simp only [push_n, upd_n] at n2)))|((with_reducible refine g_idx ?_);((first|refine ix ?_|refine ixi ?_|(refine ixg ?_;intro _ _)|(refine ixgi ?_;intro _ _));first|rintro _ _ _ _ _ ⟨rfl,rfl⟩ _|rintro _ _ _ _ _ ⟨_,rfl,_⟩ _|rintro _ _ _ _ _ ⟨_,_,_,_,rfl,rfl,_,_⟩ _|intro _ _ _ _ _ _ _))|(refine sx ?_;intro _ _)|((with_reducible refine g_awp ?_);simp only [g0,g1,g2]))
  exact ⟨rfl, _, rfl, w, xs, G, x, rfl, slr_auto, ol_auto, exc_auto, hd⟩
theorem s_spec_DrawFindTrail {h : AH} {l : List UInt8} {v : AV} {F : List Nat} (hs : l.length ≤ 1048576) (r : SlRep h v l F) : ACalls Try.prog n_spec_DrawFindTrail [v] h (DwQ h) := by
  refine c_spec_DrawFindTrail _ ?_
  unfold p_spec_DrawFindTrail
  (repeat' first|refine vs ?_|(refine br ?_ ?_<;>intro _<;>try(exfalso;first|omega|contradiction))|((with_reducible refine g_callf n_spec_l1New ?_);(refine aw_call (s_spec_l1New hs slr_auto) ?_; rintro _ h1 ⟨c, rfl, e1, lc, cu1⟩; have n1 := e1.1; (try simp only [push_n, upd_n] at n1); (try simp only [push_n, upd_n] at lc); have lc2 := cu1.lt))|((with_reducible refine g_callf n_spec_l11Any ?_);(refine aw_call (s_spec_l11Any cur_auto) ?_; rintro w h2 ⟨xs, G, ru, ou, k2, cu2, hd⟩; have n2 := k2.1; (try simp only [push_n, upd_n] at n2)))|((with_reducible refine g_callf n_spec_l1Below ?_);(refine aw_call (s_spec_l1Below cur_auto (by omega) (by omega)) ?_; rintro _ h2 ⟨x, rfl, hx0, hx1, k2, cu2⟩; have n2 := k2.1; (try simp only [push_n, upd_n] at n2)))|((with_reducible refine g_idx ?_);((first|refine ix ?_|refine ixi ?_|(refine ixg ?_;intro _ _)|(refine ixgi ?_;intro _ _));first|rintro _ _ _ _ _ ⟨rfl,rfl⟩ _|rintro _ _ _ _ _ ⟨_,rfl,_⟩ _|rintro _ _ _ _ _ ⟨_,_,_,_,rfl,rfl,_,_⟩ _|intro _ _ _ _ _ _ _))|(refine sx ?_;intro _ _)|((with_reducible refine g_awp ?_);simp only [g0,g1,g2]))
  exact ⟨rfl, _, rfl, w, xs, G, x, rfl, slr_auto, ol_auto, exc_auto, hd⟩
theorem s_laws_sameStripes : EqS Stripe Try.prog n_laws_sameStripes := by
  intro xs v v' F F' h r r'
  have hsm := r.small
  refine reader (c_laws_sameStripes _ _) (by simp only [old]) ?_
  unfold p_laws_sameStripes
  (repeat' first|refine vs ?_|(refine br ?_ ?_<;>intro _<;>try(exfalso;first|omega|contradiction))|((with_reducible refine g_idx ?_);((first|refine ix ?_|refine ixi ?_|(refine ixg ?_;intro _ _)|(refine ixgi ?_;intro _ _));first|rintro _ _ _ _ _ ⟨rfl,rfl⟩ _|rintro _ _ _ _ _ ⟨_,rfl,_⟩ _|rintro _ _ _ _ _ ⟨_,_,_,_,rfl,rfl,_,_⟩ _|intro _ _ _ _ _ _ _))|(refine sx ?_;intro _ _)|((with_reducible refine g_awp ?_);simp only [g0,g1,g2]))
  refine aw_upto xs.length (fun i vs h1 => vs = [.int .i64 (i : Int)] ∧ i ≤ xs.length ∧ h1 = h) ⟨rfl, Nat.zero_le _, rfl⟩ ?_
  rintro i vs h1 _ ⟨rfl, hi, rfl⟩
  simp only [g0]
  refine aw_len r ?_
  refine br (fun hlt => ?_) (fun hge => ?_)
  · obtain ⟨x, hx, -, -⟩ := drop_step (show i < xs.length by omega)
    refine vs ?_
    refine aw_idx r hx rfl ?_
    rintro b o _ Fi a ⟨w, rfl, rw1⟩ _
    refine vs ?_
    refine aw_idx r' hx rfl ?_
    rintro b2 o2 _ Fi2 a2 ⟨w2, rfl, rw2⟩ _
    refine vs ?_
    refine aw_idx r hx rfl ?_
    rintro b3 o3 _ Fi3 a3 ⟨w3, rfl, rw3⟩ _
    refine vs ?_
    refine aw_idx r' hx rfl ?_
    rintro b4 o4 _ Fi4 a4 ⟨w4, rfl, rw4⟩ _
    refine vs ?_
    refine aw_rcall (s_laws_sameTrails x.l _ _ _ _ _ rw3 rw4) ?_
    (repeat' first|refine vs ?_|(refine br ?_ ?_<;>intro _<;>try(exfalso;first|omega|contradiction))|((with_reducible refine g_idx ?_);((first|refine ix ?_|refine ixi ?_|(refine ixg ?_;intro _ _)|(refine ixgi ?_;intro _ _));first|rintro _ _ _ _ _ ⟨rfl,rfl⟩ _|rintro _ _ _ _ _ ⟨_,rfl,_⟩ _|rintro _ _ _ _ _ ⟨_,_,_,_,rfl,rfl,_,_⟩ _|intro _ _ _ _ _ _ _))|(refine sx ?_;intro _ _)|((with_reducible refine g_awp ?_);simp only [g0,g1,g2]))
    exact ⟨by omega, rfl, by omega, rfl⟩
  · (repeat' first|refine vs ?_|(refine br ?_ ?_<;>intro _<;>try(exfalso;first|omega|contradiction))|((with_reducible refine g_idx ?_);((first|refine ix ?_|refine ixi ?_|(refine ixg ?_;intro _ _)|(refine ixgi ?_;intro _ _));first|rintro _ _ _ _ _ ⟨rfl,rfl⟩ _|rintro _ _ _ _ _ ⟨_,rfl,_⟩ _|rintro _ _ _ _ _ ⟨_,_,_,_,rfl,rfl,_,_⟩ _|intro _ _ _ _ _ _ _))|(refine sx ?_;intro _ _)|((with_reducible refine g_awp ?_);simp only [g0,g1,g2]))
    exact pb rfl
/-! ### Plain laws -/
theorem sumI_ins {α : Type} {f : α → Int} {key : α → Int} {x : α} : ∀ l : List α, sumI f (ins key x l) = f x + sumI f l
  | [] => by simp [ins, sumI]
  | y :: l => by
    unfold ins
    split
    · simp [sumI]
    · simp only [sumI, sumI_ins l]; omega
theorem sumI_ssort {α : Type} {f : α → Int} {key : α → Int} (l : List α) : sumI f (ssort key l) = sumI f l := by
  have go : ∀ (l acc : List α), sumI f (l.foldl (fun acc x => ins key x acc) acc) = sumI f acc + sumI f l := by
    intro l
    induction l with
    | nil => intro acc; simp [sumI]
    | cons x l ih => intro acc; rw [List.foldl_cons, ih, sumI_ins]; simp only [sumI]; omega
  have := go l []
  simpa [ssort, sumI] using this
theorem old_fold (l : List Trail) : ∀ (b r : Trail), l.foldl oldStep (some b) = some r → ¬ older b r ∧ ∀ t ∈ l, ¬ older t r := by
  induction l with
  | nil =>
    intro b r h
    simp only [List.foldl_nil, Option.some.injEq] at h
    subst h
    exact ⟨by unfold older; omega, by simp⟩
  | cons t l ih =>
    intro b r h
    rw [List.foldl_cons] at h
    by_cases ho : older t b
    · rw [old_y ho] at h
      obtain ⟨h1, h2⟩ := ih t r h
      refine ⟨fun hb => h1 ?_, List.forall_mem_cons.2 ⟨h1, h2⟩⟩
      unfold older at *
      omega
    · rw [old_n ho] at h
      obtain ⟨h1, h2⟩ := ih b r h
      refine ⟨h1, List.forall_mem_cons.2 ⟨fun hb => h1 ?_, h2⟩⟩
      unfold older at *
      omega
theorem fold_isSome (l : List Trail) : ∀ b : Trail, ∃ r, l.foldl oldStep (some b) = some r := by
  induction l with
  | nil => exact fun b => ⟨b, rfl⟩
  | cons t l ih =>
    intro b
    rw [List.foldl_cons]
    by_cases ho : older t b
    · rw [old_y ho]; exact ih t
    · rw [old_n ho]; exact ih b
theorem oldest_law (l : List Trail) : ((oldest l).isSome = true ↔ 0 < l.length) ∧ ∀ t ∈ l, ¬ older t ((oldest l).getD zeroT) := by
  cases l with
  | nil => simp [oldest]
  | cons a l =>
    have e : oldest (a :: l) = l.foldl oldStep (some a) := rfl
    obtain ⟨r, hr⟩ := fold_isSome l a
    obtain ⟨h1, h2⟩ := old_fold l a r hr
    rw [e, hr]
    exact ⟨by simp, List.forall_mem_cons.2 ⟨h1, h2⟩⟩
theorem drop_law (l : List Stripe) (id : Int) : (findB l id = true → held (dropT l id) = held l - trailBytes (findT l id)) ∧ (findB l id = false → held (dropT l id) = held l) := by
  cases h : findO l id with
  | some o =>
    obtain ⟨e1, e2⟩ := find_s h
    rw [e1, e2]
    refine ⟨fun _ => ?_, fun q => (by cases q)⟩
    have := held_drop h
    omega
  | none =>
    obtain ⟨e1, e2⟩ := find_n h
    rw [e2]
    refine ⟨fun q => (by cases q), fun _ => ?_⟩
    cases hy : l[(stripe id l.length).toNat]? with
    | none =>
      unfold dropT; rw [hy]
    | some y => rw [drop_no hy (findO_none h y hy)]
theorem dropT_sz (l : List Stripe) (id : Int) : szs (dropT l id) ≤ szs l := by
  cases hy : l[(stripe id l.length).toNat]? with
  | none => unfold dropT; rw [hy]; exact Nat.le_refl _
  | some y =>
    by_cases hi : idx (isId id) y.l < 0
    · rw [drop_no hy hi]; exact Nat.le_refl _
    · rw [drop_yes hy hi, set_split hy]
      have hx := congrArg szs (get_split hy)
      rw [szs_app] at hx ⊢
      obtain ⟨j, t, hj, ht, -, -⟩ := idx_some hi
      have e1 := congrArg szs (get_split ht)
      have e2 := congrArg List.length (get_split ht)
      rw [szs_app] at e1
      have hjl := (List.getElem?_eq_some_iff.1 ht).1
      have e3 : Sz.sz ({ y with l := y.l.eraseIdx (idx (isId id) y.l).toNat } : Stripe) = (y.l.eraseIdx j).length + szs (y.l.eraseIdx j) := by rw [hj, Int.toNat_natCast]; rfl
      have e4 : Sz.sz y = y.l.length + szs y.l := rfl
      rw [erase_split hjl, szs_app] at e3
      simp only [szs, e3, List.length_append, List.length_cons] at hx e1 e2 ⊢
      omega
end Go.Proofs.Ytpcgbddmdipfbaa
