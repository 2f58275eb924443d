/- What is held: things of a stamp, all trails, bytes, a trail, the oldest one. -/
import Derived.Test.YtpcgbddmdipfbaaW10
set_option linter.unusedSimpArgs false
set_option linter.unusedVariables false
set_option maxHeartbeats 1000000
namespace Go.Proofs.Ytpcgbddmdipfbaa
open Go Go.Ab
section
/- impl.ItemsOf -/
def p_impl_ItemsOf (x0 x1 : AV) : Prog := .op (.len 0 x0) fun v1 => .loop [AV.nils, AV.int .i64 0] (fun vs2 => .op (.bin 0 .lss (g vs2 1) v1) fun v4 => .ite v4 (.op (.idx 7 x0 (g vs2 1)) fun v5 => .op (.ldn 7 v5) fun v6 => .op (.alloc z7_a90) fun v7 => .op (.st 7 v7 v6) fun v8 => .op (.fad 0 v7) fun v9 => .op (.ld1 v9) fun v10 => .op (.bin 0 .eql v10 x1) fun v11 => .scope (.ite v11 (.op (.fad 1 v7) fun v12 => .op (.ldn 6 v12) fun v13 => .op (.call n_impl_copySpan [v13]) fun v14 => .op (.bslice 6 1 z6_822 [(0, 6, v14)]) fun v15 => .op (.app 6 64 (g vs2 0) v15) fun v16 => .leaf 0 [v16]) (.leaf 0 [g vs2 0])) (fun vs17 => .op (.bin 0 .add (g vs2 1) (AV.int .i64 1)) fun v19 => .leaf 0 [g vs17 0, v19]) fun t18 vs17 => tsel t18 1 (.leaf 1 vs17) .bad) (.leaf 2 [g vs2 0, g vs2 1])) fun t3 vs2 => tsel t3 1 (.leaf 1 vs2) (tsel t3 2 (.fin [.val (g vs2 0)]) .bad)
theorem c_impl_ItemsOf (x0 x1 : AV) : CC Try.prog n_impl_ItemsOf [x0, x1] (p_impl_ItemsOf x0 x1) := cc Try.func71 [1, 5, 8, 9, 10] (fun _ => []) (by kernel_rfl)
/- spec.ItemsOf -/
def p_spec_ItemsOf (x0 x1 : AV) : Prog := .op (.bslice 6 0 [] []) fun v1 => .loop [v1, AV.int .i64 0] (fun vs2 => .op (.len 0 x0) fun v4 => .op (.bin 0 .lss (g vs2 1) v4) fun v5 => .ite v5 (.op (.idx 7 x0 (g vs2 1)) fun v6 => .op (.fad 0 v6) fun v7 => .op (.ld1 v7) fun v8 => .op (.bin 0 .eql v8 x1) fun v9 => .scope (.ite v9 (.op (.idx 7 x0 (g vs2 1)) fun v10 => .op (.fad 1 v10) fun v11 => .op (.ldn 6 v11) fun v12 => .op (.call n_spec_l3Copy [v12]) fun v13 => .op (.bslice 6 1 z6_822 [(0, 6, v13)]) fun v14 => .op (.app 6 64 (g vs2 0) v14) fun v15 => .leaf 0 [v15]) (.leaf 0 [g vs2 0])) (fun vs16 => .op (.bin 0 .add (g vs2 1) (AV.int .i64 1)) fun v18 => .leaf 0 [g vs16 0, v18]) fun t17 vs16 => tsel t17 1 (.leaf 1 vs16) .bad) (.leaf 2 [g vs2 0, g vs2 1])) fun t3 vs2 => tsel t3 1 (.leaf 1 vs2) (tsel t3 2 (.fin [.val (g vs2 0)]) .bad)
theorem c_spec_ItemsOf (x0 x1 : AV) : CC Try.prog n_spec_ItemsOf [x0, x1] (p_spec_ItemsOf x0 x1) := cc Try.func82 [0, 1, 5, 6] (fun _ => []) (by kernel_rfl)
/- impl.allTrails -/
def p_impl_allTrails (x0 : AV) : Prog := .op (.len 0 x0) fun v1 => .loop [AV.nils, AV.int .i64 0] (fun vs2 => .op (.bin 0 .lss (g vs2 1) v1) fun v4 => .ite v4 (.op (.idx 2 x0 (g vs2 1)) fun v5 => .op (.ldn 2 v5) fun v6 => .op (.alloc [AV.int .i64 0, AV.nils]) fun v7 => .op (.st 2 v7 v6) fun v8 => .op (.fad 1 v7) fun v9 => .op (.ld1 v9) fun v10 => .op (.call n_impl_copyTrails [v10]) fun v11 => .op (.app 4 48 (g vs2 0) v11) fun v12 => .op (.bin 0 .add (g vs2 1) (AV.int .i64 1)) fun v13 => .leaf 0 [v12, v13]) (.leaf 2 [g vs2 0, g vs2 1])) fun t3 vs2 => tsel t3 1 (.leaf 1 vs2) (tsel t3 2 (.fin [.val (g vs2 0)]) .bad)
theorem c_impl_allTrails (x0 : AV) : CC Try.prog n_impl_allTrails [x0] (p_impl_allTrails x0) := cc Try.func141 [3, 6, 7, 8] (fun _ => []) (by kernel_rfl)
/- impl.HeldBytes -/
def p_impl_HeldBytes (x0 : AV) : Prog := .op (.call n_impl_allTrails [x0]) fun v1 => .op (.len 0 v1) fun v2 => .loop [AV.int .i64 0, AV.int .i64 0] (fun vs3 => .op (.bin 0 .lss (g vs3 1) v2) fun v5 => .ite v5 (.op (.idx 4 v1 (g vs3 1)) fun v6 => .op (.ldn 4 v6) fun v7 => .op (.alloc [AV.int .i64 0, AV.int .i64 0, AV.int .i64 0, AV.nils]) fun v8 => .op (.st 4 v8 v7) fun v9 => .op (.ldn 4 v8) fun v10 => .op (.call n_impl_BytesOf [v10]) fun v11 => .op (.bin 0 .add (g vs3 0) v11) fun v12 => .op (.bin 0 .add (g vs3 1) (AV.int .i64 1)) fun v13 => .leaf 0 [v12, v13]) (.leaf 2 [g vs3 0, g vs3 1])) fun t4 vs3 => tsel t4 1 (.leaf 1 vs3) (tsel t4 2 (.fin [.val (g vs3 0)]) .bad)
theorem c_impl_HeldBytes (x0 : AV) : CC Try.prog n_impl_HeldBytes [x0] (p_impl_HeldBytes x0) := cc Try.func114 [3, 7, 8, 9] (fun _ => []) (by kernel_rfl)
/- spec.HeldBytes -/
def p_spec_HeldBytes (x0 : AV) : Prog := .loop [AV.int .i64 0, AV.int .i64 0, .tup []] (fun vs1 => .op (.len 0 x0) fun v3 => .op (.bin 0 .lss (g vs1 1) v3) fun v4 => .ite v4 (.loop [g vs1 0, AV.int .i64 0] (fun vs5 => .op (.idx 2 x0 (g vs1 1)) fun v7 => .op (.fad 1 v7) fun v8 => .op (.ld1 v8) fun v9 => .op (.len 0 v9) fun v10 => .op (.bin 0 .lss (g vs5 1) v10) fun v11 => .ite v11 (.op (.idx 2 x0 (g vs1 1)) fun v12 => .op (.fad 1 v12) fun v13 => .op (.ld1 v13) fun v14 => .op (.idx 4 v14 (g vs5 1)) fun v15 => .op (.ldn 4 v15) fun v16 => .op (.call n_spec_BytesOf [v16]) fun v17 => .op (.bin 0 .add (g vs5 0) v17) fun v18 => .op (.bin 0 .add (g vs5 1) (AV.int .i64 1)) fun v19 => .leaf 0 [v18, v19]) (.leaf 4 [g vs5 0, g vs5 1])) fun t6 vs5 => tsel t6 1 (.leaf 1 vs5) (tsel t6 4 (.op (.bin 0 .add (g vs1 1) (AV.int .i64 1)) fun v20 => .leaf 0 [g vs5 0, v20, g vs5 1]) .bad)) (.leaf 2 [g vs1 0, g vs1 1, g vs1 2])) fun t2 vs1 => tsel t2 1 (.leaf 1 vs1) (tsel t2 2 (.fin [.val (g vs1 0)]) .bad)
theorem c_spec_HeldBytes (x0 : AV) : CC Try.prog n_spec_HeldBytes [x0] (p_spec_HeldBytes x0) := cc Try.func115 [0, 3, 4, 5] (fun _ => []) (by kernel_rfl)
end
def itemsOf (l : List Itm) (k : Int) : List Span := (l.filter fun x => decide (x.stamp = k)).map (·.s)
theorem itemsOf_y {l : List Itm} {k : Int} {i : Nat} {x : Itm} (ht : l.take (i + 1) = l.take i ++ [x]) (e : x.stamp = k) : itemsOf (l.take (i + 1)) k = itemsOf (l.take i) k ++ [x.s] := by
  rw [ht]; simp [itemsOf, e]
theorem itemsOf_n {l : List Itm} {k : Int} {i : Nat} {x : Itm} (ht : l.take (i + 1) = l.take i ++ [x]) (e : ¬ x.stamp = k) : itemsOf (l.take (i + 1)) k = itemsOf (l.take i) k := by
  rw [ht]; simp [itemsOf, e]
theorem itemsOf_len (l : List Itm) (k : Int) : (itemsOf l k).length ≤ l.length := by unfold itemsOf; rw [List.length_map]; exact List.length_filter_le _ _
theorem itemsOf_szs (l : List Itm) (k : Int) : szs (itemsOf l k) ≤ szs l := by
  induction l with
  | nil => simp [itemsOf, szs]
  | cons x l ih =>
    have h2 : Sz.sz x = Sz.sz x.s := rfl
    by_cases e : x.stamp = k
    · have : itemsOf (x :: l) k = x.s :: itemsOf l k := by simp [itemsOf, e]
      rw [this]; simp only [szs]; omega
    · have : itemsOf (x :: l) k = itemsOf l k := by simp [itemsOf, e]
      rw [this]; simp only [szs]; omega
theorem s_impl_ItemsOf {h : AH} {l : List Itm} {v : AV} {F : List Nat} {k : Int} (hs : l.length + szs l ≤ 67108864) (r : SlRep h v l F) : ACalls Try.prog n_impl_ItemsOf [v, .int .i64 k] h (NewS Span h (itemsOf l k)) := by
  refine c_impl_ItemsOf _ _ ?_
  unfold p_impl_ItemsOf
  have hsm := r.small
  refine aw_len r ?_
  refine aw_upto l.length (fun i vs h1 => ∃ u G, vs = [u, .int .i64 (i : Int)] ∧ i ≤ l.length ∧ Ext h h1 ∧ SlRep h1 u (itemsOf (l.take i) k) G ∧ Own h.n h1 G) ⟨.nils, [], rfl, Nat.zero_le _, Ext.refl _, SlRep.nils, Own.nil⟩ ?_
  rintro i vs h1 _ ⟨u, G, rfl, hi, e1, ru, ou⟩
  have n1 := e1.1
  simp only [g0, g1]
  have hlen := itemsOf_len (l.take i) k
  rw [List.length_take] at hlen
  refine br (fun hlt => ?_) (fun hge => ?_)
  · obtain ⟨x, hx, -, htk⟩ := drop_step (show i < l.length by omega)
    have hm := szs_mem (List.mem_of_getElem? hx)
    have hx2 : Sz.sz x = Sz.sz x.s := rfl
    refine vs ?_
    refine aw_idx r hx rfl ?_
    rintro b o _ Fi a ⟨v0, rfl, r0⟩ _
    (repeat' first|refine vs ?_|(refine br ?_ ?_<;>intro _<;>try(exfalso;first|omega|contradiction))|((with_reducible refine g_callf n_impl_copySpan ?_);(refine aw_call (s_impl_copySpan x.s (by omega) _ _ _ ⟨_, rfl, slr_auto⟩) ?_; rintro _ h2 ⟨e2, _, G2, rfl, ⟨w2, rfl, q2⟩, o2⟩; have n2 := e2.1; (try simp only [push_n, upd_n] at n2)))|((with_reducible refine g_idx ?_);((first|refine ix ?_|refine ixi ?_|(refine ixg ?_;intro _ _)|(refine ixgi ?_;intro _ _));first|rintro _ _ _ _ _ ⟨rfl,rfl⟩ _|rintro _ _ _ _ _ ⟨_,rfl,_⟩ _|rintro _ _ _ _ _ ⟨_,_,_,_,rfl,rfl,_,_⟩ _|intro _ _ _ _ _ _ _))|(refine sx ?_;intro _ _)|((with_reducible refine g_awp ?_);simp only [g0,g1,g2]))
    · refine app1 (n := h.n) (xs := itemsOf (l.take i) k) (Fx := G) (a := x.s) slr_auto ⟨_, rfl, q2⟩ (own_app (ol_auto) o2 om_auto dis_auto) om_auto rfl ?_ ?_ ?_
      · omega
      · omega
      intro u' h' F' ek kp r' o'
      (repeat' first|refine vs ?_|(refine br ?_ ?_<;>intro _<;>try(exfalso;first|omega|contradiction))|((with_reducible refine g_idx ?_);((first|refine ix ?_|refine ixi ?_|(refine ixg ?_;intro _ _)|(refine ixgi ?_;intro _ _));first|rintro _ _ _ _ _ ⟨rfl,rfl⟩ _|rintro _ _ _ _ _ ⟨_,rfl,_⟩ _|rintro _ _ _ _ _ ⟨_,_,_,_,rfl,rfl,_,_⟩ _|intro _ _ _ _ _ _ _))|(refine sx ?_;intro _ _)|((with_reducible refine g_awp ?_);simp only [g0,g1,g2]))
      exact ⟨by omega, u', F', rfl, by omega, ek h ext_auto (Nat.le_refl _), by rw [itemsOf_y htk (by assumption)]; exact r', o'⟩
    · exact ⟨by omega, u, G, rfl, by omega, ext_auto, by rw [itemsOf_n htk (by assumption)]; exact slr_auto, ol_auto⟩
  · (repeat' first|refine vs ?_|(refine br ?_ ?_<;>intro _<;>try(exfalso;first|omega|contradiction))|((with_reducible refine g_idx ?_);((first|refine ix ?_|refine ixi ?_|(refine ixg ?_;intro _ _)|(refine ixgi ?_;intro _ _));first|rintro _ _ _ _ _ ⟨rfl,rfl⟩ _|rintro _ _ _ _ _ ⟨_,rfl,_⟩ _|rintro _ _ _ _ _ ⟨_,_,_,_,rfl,rfl,_,_⟩ _|intro _ _ _ _ _ _ _))|(refine sx ?_;intro _ _)|((with_reducible refine g_awp ?_);simp only [g0,g1,g2]))
    exact ⟨rfl, u, rfl, e1, G, by rw [show i = l.length by omega, List.take_length] at ru; exact ru, ou⟩
theorem s_spec_ItemsOf {h : AH} {l : List Itm} {v : AV} {F : List Nat} {k : Int} (hs : l.length + szs l ≤ 67108864) (r : SlRep h v l F) : ACalls Try.prog n_spec_ItemsOf [v, .int .i64 k] h (NewS Span h (itemsOf l k)) := by
  refine c_spec_ItemsOf _ _ ?_
  unfold p_spec_ItemsOf
  have hsm := r.small
  obtain ⟨re, oe⟩ := empty_own (h := h) (α := Span) (w := 6) rfl
  refine vs ?_
  refine aw_upto l.length (fun i vs h1 => ∃ u G, vs = [u, .int .i64 (i : Int)] ∧ i ≤ l.length ∧ Ext h h1 ∧ SlRep h1 u (itemsOf (l.take i) k) G ∧ Own h.n h1 G) ⟨_, _, rfl, Nat.zero_le _, (Ext.refl _).push _, by rw [List.take_zero]; exact re, oe _ (Nat.le_refl _)⟩ ?_
  rintro i vs h1 _ ⟨u, G, rfl, hi, e1, ru, ou⟩
  have n1 := e1.1
  simp only [g0, g1]
  have hlen := itemsOf_len (l.take i) k
  rw [List.length_take] at hlen
  refine aw_len r ?_
  refine br (fun hlt => ?_) (fun hge => ?_)
  · obtain ⟨x, hx, -, htk⟩ := drop_step (show i < l.length by omega)
    have hm := szs_mem (List.mem_of_getElem? hx)
    have hx2 : Sz.sz x = Sz.sz x.s := rfl
    (repeat' first|refine vs ?_|(refine br ?_ ?_<;>intro _<;>try(exfalso;first|omega|contradiction))|((with_reducible refine g_callf n_spec_l3Copy ?_);(refine aw_call (s_spec_l3Copy x.s (by omega) _ _ _ ⟨_, rfl, slr_auto⟩) ?_; rintro _ h2 ⟨e2, _, G2, rfl, ⟨w2, rfl, q2⟩, o2⟩; have n2 := e2.1; (try simp only [push_n, upd_n] at n2)))|((with_reducible refine g_idx ?_);((first|refine ix ?_|refine ixi ?_|(refine ixg ?_;intro _ _)|(refine ixgi ?_;intro _ _));first|rintro _ _ _ _ _ ⟨rfl,rfl⟩ _|rintro _ _ _ _ _ ⟨_,rfl,_⟩ _|rintro _ _ _ _ _ ⟨_,_,_,_,rfl,rfl,_,_⟩ _|intro _ _ _ _ _ _ _))|(refine sx ?_;intro _ _)|((with_reducible refine g_awp ?_);simp only [g0,g1,g2]))
    · refine app1 (n := h.n) (xs := itemsOf (l.take i) k) (Fx := G) (a := x.s) slr_auto ⟨_, rfl, q2⟩ (own_app (ol_auto) o2 om_auto dis_auto) om_auto rfl ?_ ?_ ?_
      · omega
      · omega
      intro u' h' F' ek kp r' o'
      (repeat' first|refine vs ?_|(refine br ?_ ?_<;>intro _<;>try(exfalso;first|omega|contradiction))|((with_reducible refine g_idx ?_);((first|refine ix ?_|refine ixi ?_|(refine ixg ?_;intro _ _)|(refine ixgi ?_;intro _ _));first|rintro _ _ _ _ _ ⟨rfl,rfl⟩ _|rintro _ _ _ _ _ ⟨_,rfl,_⟩ _|rintro _ _ _ _ _ ⟨_,_,_,_,rfl,rfl,_,_⟩ _|intro _ _ _ _ _ _ _))|(refine sx ?_;intro _ _)|((with_reducible refine g_awp ?_);simp only [g0,g1,g2]))
      exact ⟨by omega, u', F', rfl, by omega, ek h ext_auto (Nat.le_refl _), by rw [itemsOf_y htk (by assumption)]; exact r', o'⟩
    · exact ⟨by omega, u, G, rfl, by omega, ext_auto, by rw [itemsOf_n htk (by assumption)]; exact slr_auto, ol_auto⟩
  · (repeat' first|refine vs ?_|(refine br ?_ ?_<;>intro _<;>try(exfalso;first|omega|contradiction))|((with_reducible refine g_idx ?_);((first|refine ix ?_|refine ixi ?_|(refine ixg ?_;intro _ _)|(refine ixgi ?_;intro _ _));first|rintro _ _ _ _ _ ⟨rfl,rfl⟩ _|rintro _ _ _ _ _ ⟨_,rfl,_⟩ _|rintro _ _ _ _ _ ⟨_,_,_,_,rfl,rfl,_,_⟩ _|intro _ _ _ _ _ _ _))|(refine sx ?_;intro _ _)|((with_reducible refine g_awp ?_);simp only [g0,g1,g2]))
    exact ⟨rfl, u, rfl, e1, G, by rw [show i = l.length by omega, List.take_length] at ru; exact ru, ou⟩

/-! ### All trails -/
def allT (l : List Stripe) : List Trail := l.flatMap (·.l)
theorem allT_s {l : List Stripe} {i : Nat} {x : Stripe} (ht : l.take (i + 1) = l.take i ++ [x]) : allT (l.take (i + 1)) = allT (l.take i) ++ x.l := by rw [ht]; simp [allT]
theorem szs_app {α : Type} [Sz α] : ∀ l r : List α, szs (l ++ r) = szs l + szs r
  | [], r => by simp [szs]
  | x :: l, r => by simp only [List.cons_append, szs, szs_app l]; omega
theorem allT_b : ∀ l : List Stripe, (allT l).length + szs (allT l) ≤ szs l
  | [] => by simp [allT, szs]
  | x :: l => by
    have := allT_b l
    have e : allT (x :: l) = x.l ++ allT l := by simp [allT]
    have h2 : Sz.sz x = x.l.length + szs x.l := rfl
    rw [e, List.length_append, szs_app]; simp only [szs]; omega
theorem s_impl_allTrails {h : AH} {l : List Stripe} {v : AV} {F : List Nat} (hs : l.length + szs l ≤ 67108864) (r : SlRep h v l F) : ACalls Try.prog n_impl_allTrails [v] h (NewS Trail h (allT l)) := by
  refine c_impl_allTrails _ ?_
  unfold p_impl_allTrails
  have hsm := r.small
  refine aw_len r ?_
  refine aw_upto l.length (fun i vs h1 => ∃ u G, vs = [u, .int .i64 (i : Int)] ∧ i ≤ l.length ∧ Ext h h1 ∧ SlRep h1 u (allT (l.take i)) G ∧ Own h.n h1 G) ⟨.nils, [], rfl, Nat.zero_le _, Ext.refl _, SlRep.nils, Own.nil⟩ ?_
  rintro i vs h1 _ ⟨u, G, rfl, hi, e1, ru, ou⟩
  have n1 := e1.1
  simp only [g0, g1]
  have hlen := allT_b (l.take i)
  have hle := szs_take_le l i
  refine br (fun hlt => ?_) (fun hge => ?_)
  · obtain ⟨x, hx, -, htk⟩ := drop_step (show i < l.length by omega)
    have hm := szs_mem (List.mem_of_getElem? hx)
    have hx2 : Sz.sz x = x.l.length + szs x.l := rfl
    refine vs ?_
    refine aw_idx r hx rfl ?_
    rintro b o _ Fi a ⟨v0, rfl, r0⟩ _
    (repeat' first|refine vs ?_|(refine br ?_ ?_<;>intro _<;>try(exfalso;first|omega|contradiction))|((with_reducible refine g_callf n_impl_copyTrails ?_);(refine aw_call (s_impl_copyTrails x.l (by omega) _ _ _ slr_auto) ?_; rintro w2 h2 ⟨e2, G2, q2, o2⟩; have n2 := e2.1; (try simp only [push_n, upd_n] at n2)))|((with_reducible refine g_idx ?_);((first|refine ix ?_|refine ixi ?_|(refine ixg ?_;intro _ _)|(refine ixgi ?_;intro _ _));first|rintro _ _ _ _ _ ⟨rfl,rfl⟩ _|rintro _ _ _ _ _ ⟨_,rfl,_⟩ _|rintro _ _ _ _ _ ⟨_,_,_,_,rfl,rfl,_,_⟩ _|intro _ _ _ _ _ _ _))|(refine sx ?_;intro _ _)|((with_reducible refine g_awp ?_);simp only [g0,g1,g2]))
    refine app2' (n := h.n) (xs := allT (l.take i)) (ys := x.l) (Fx := G) (Fy := G2) slr_auto q2 (own_app (ol_auto) o2 om_auto dis_auto) om_auto rfl ?_ ?_ ?_
    · omega
    · omega
    intro u' h' F' ek kp r' o'
    (repeat' first|refine vs ?_|(refine br ?_ ?_<;>intro _<;>try(exfalso;first|omega|contradiction))|((with_reducible refine g_idx ?_);((first|refine ix ?_|refine ixi ?_|(refine ixg ?_;intro _ _)|(refine ixgi ?_;intro _ _));first|rintro _ _ _ _ _ ⟨rfl,rfl⟩ _|rintro _ _ _ _ _ ⟨_,rfl,_⟩ _|rintro _ _ _ _ _ ⟨_,_,_,_,rfl,rfl,_,_⟩ _|intro _ _ _ _ _ _ _))|(refine sx ?_;intro _ _)|((with_reducible refine g_awp ?_);simp only [g0,g1,g2]))
    exact ⟨by omega, u', F', rfl, by omega, ek h ext_auto (Nat.le_refl _), by rw [allT_s htk]; exact r', o'⟩
  · (repeat' first|refine vs ?_|(refine br ?_ ?_<;>intro _<;>try(exfalso;first|omega|contradiction))|((with_reducible refine g_idx ?_);((first|refine ix ?_|refine ixi ?_|(refine ixg ?_;intro _ _)|(refine ixgi ?_;intro _ _));first|rintro _ _ _ _ _ ⟨rfl,rfl⟩ _|rintro _ _ _ _ _ ⟨_,rfl,_⟩ _|rintro _ _ _ _ _ ⟨_,_,_,_,rfl,rfl,_,_⟩ _|intro _ _ _ _ _ _ _))|(refine sx ?_;intro _ _)|((with_reducible refine g_awp ?_);simp only [g0,g1,g2]))
    exact ⟨rfl, u, rfl, e1, G, by rw [show i = l.length by omega, List.take_length] at ru; exact ru, ou⟩

/-! ### Bytes -/
def trailBytes (t : Trail) : Int := sumI spanSize t.spans
theorem trailBytes_b (t : Trail) : 0 ≤ trailBytes t ∧ trailBytes t ≤ 0 + 12 * (Sz.sz t : Nat) := by
  have h := sumI_b spanSize_b t.spans
  have h2 : Sz.sz t = t.spans.length + szs t.spans := rfl
  unfold trailBytes; omega
def held (l : List Stripe) : Int := sumI trailBytes (allT l)
theorem held_b (l : List Stripe) : 0 ≤ held l ∧ held l ≤ 12 * (szs l : Nat) := by
  have h := sumI_b trailBytes_b (allT l)
  have := allT_b l
  unfold held; omega
theorem sumI_tb (l : List Trail) : 0 ≤ sumI trailBytes l ∧ sumI trailBytes l ≤ 12 * (szs l : Nat) := by
  have h := sumI_b trailBytes_b l; omega
theorem s_impl_HeldBytes {h : AH} {l : List Stripe} {v : AV} {F : List Nat} (hs : l.length + szs l ≤ 67108864) (r : SlRep h v l F) : RCalls Try.prog n_impl_HeldBytes [v] h (.int .i64 (held l)) := by
  refine reader (c_impl_HeldBytes _) (by simp only [old]) ?_
  unfold p_impl_HeldBytes
  refine aw_call (s_impl_allTrails hs r) ?_
  rintro w1 h1 ⟨e1, G1, q1, o1⟩
  have hall := allT_b l
  refine aw_len q1 ?_
  refine aw_upto (allT l).length (fun i vs h2 => vs = [.int .i64 (sumI trailBytes ((allT l).take i)), .int .i64 (i : Int)] ∧ i ≤ (allT l).length ∧ Ext h1 h2) ⟨by simp [sumI], Nat.zero_le _, Ext.refl _⟩ ?_
  rintro i vs h2 _ ⟨rfl, hi, e2⟩
  simp only [g0, g1]
  have hb := sumI_tb ((allT l).take i)
  have hle := szs_take_le (allT l) i
  refine br (fun hlt => ?_) (fun hge => ?_)
  · obtain ⟨x, hx, -, htk⟩ := drop_step (show i < (allT l).length by omega)
    have hm := szs_mem (List.mem_of_getElem? hx)
    have hxb := trailBytes_b x
    refine vs ?_
    refine aw_idx q1 hx rfl ?_
    rintro b o _ Fi a ⟨v0, rfl, r0⟩ _
    (repeat' first|refine vs ?_|(refine br ?_ ?_<;>intro _<;>try(exfalso;first|omega|contradiction))|((with_reducible refine g_callf n_impl_BytesOf ?_);refine aw_rcall (s_impl_BytesOf (by omega) slr_auto) ?_)|((with_reducible refine g_idx ?_);((first|refine ix ?_|refine ixi ?_|(refine ixg ?_;intro _ _)|(refine ixgi ?_;intro _ _));first|rintro _ _ _ _ _ ⟨rfl,rfl⟩ _|rintro _ _ _ _ _ ⟨_,rfl,_⟩ _|rintro _ _ _ _ _ ⟨_,_,_,_,rfl,rfl,_,_⟩ _|intro _ _ _ _ _ _ _))|(refine sx ?_;intro _ _)|((with_reducible refine g_awp ?_);simp only [g0,g1,g2]))
    refine aw_addn (by unfold trailBytes at *; omega) (by unfold trailBytes at *; omega) ?_
    (repeat' first|refine vs ?_|(refine br ?_ ?_<;>intro _<;>try(exfalso;first|omega|contradiction))|((with_reducible refine g_idx ?_);((first|refine ix ?_|refine ixi ?_|(refine ixg ?_;intro _ _)|(refine ixgi ?_;intro _ _));first|rintro _ _ _ _ _ ⟨rfl,rfl⟩ _|rintro _ _ _ _ _ ⟨_,rfl,_⟩ _|rintro _ _ _ _ _ ⟨_,_,_,_,rfl,rfl,_,_⟩ _|intro _ _ _ _ _ _ _))|(refine sx ?_;intro _ _)|((with_reducible refine g_awp ?_);simp only [g0,g1,g2]))
    exact ⟨by omega, by rw [sumI_take _ htk]; rfl, by omega, ext_auto⟩
  · (repeat' first|refine vs ?_|(refine br ?_ ?_<;>intro _<;>try(exfalso;first|omega|contradiction))|((with_reducible refine g_idx ?_);((first|refine ix ?_|refine ixi ?_|(refine ixg ?_;intro _ _)|(refine ixgi ?_;intro _ _));first|rintro _ _ _ _ _ ⟨rfl,rfl⟩ _|rintro _ _ _ _ _ ⟨_,rfl,_⟩ _|rintro _ _ _ _ _ ⟨_,_,_,_,rfl,rfl,_,_⟩ _|intro _ _ _ _ _ _ _))|(refine sx ?_;intro _ _)|((with_reducible refine g_awp ?_);simp only [g0,g1,g2]))
    refine pi ?_ (e1.trans e2)
    rw [show i = (allT l).length by omega, List.take_length]; rfl
theorem s_spec_HeldBytes {h : AH} {l : List Stripe} {v : AV} {F : List Nat} (hs : l.length + szs l ≤ 67108864) (r : SlRep h v l F) : RCalls Try.prog n_spec_HeldBytes [v] h (.int .i64 (held l)) := by
  refine reader (c_spec_HeldBytes _) (by simp only [old]) ?_
  unfold p_spec_HeldBytes
  have hsm := r.small
  refine aw_upto l.length (fun i vs h2 => ∃ z, vs = [.int .i64 (held (l.take i)), .int .i64 (i : Int), z] ∧ i ≤ l.length ∧ Ext h h2) ⟨_, rfl, Nat.zero_le _, Ext.refl _⟩ ?_
  rintro i vs h2 _ ⟨z, rfl, hi, e2⟩
  simp only [g0, g1]
  have hb := held_b (l.take i)
  have hle := szs_take_le l i
  refine aw_len r ?_
  refine br (fun hlt => ?_) (fun hge => ?_)
  · obtain ⟨x, hx, -, htk⟩ := drop_step (show i < l.length by omega)
    have hm := szs_mem (List.mem_of_getElem? hx)
    have hx2 : Sz.sz x = x.l.length + szs x.l := rfl
    have hhs : held (l.take (i + 1)) = held (l.take i) + sumI trailBytes x.l := by unfold held; rw [allT_s htk, sumI_app]
    refine aw_ite_t ?_
    have hsx : x.l.length < 281474976710656 := by omega
    refine aw_upto x.l.length (fun j vs h3 => vs = [.int .i64 (held (l.take i) + sumI trailBytes (x.l.take j)), .int .i64 (j : Int)] ∧ j ≤ x.l.length ∧ Ext h h3) ⟨by simp [sumI], Nat.zero_le _, e2⟩ ?_
    rintro j vs h3 _ ⟨rfl, hj, e3⟩
    simp only [g0, g1]
    have hb2 := sumI_tb (x.l.take j)
    have hle2 := szs_take_le x.l j
    refine aw_idx r hx rfl ?_
    rintro b o _ Fi a ⟨v0, rfl, r0⟩ _
    refine vs ?_
    refine br (fun hlt2 => ?_) (fun hge2 => ?_)
    · obtain ⟨y, hy, -, htk2⟩ := drop_step (show j < x.l.length by omega)
      have hm2 := szs_mem (List.mem_of_getElem? hy)
      have hyb := trailBytes_b y
      (repeat' first|refine vs ?_|(refine br ?_ ?_<;>intro _<;>try(exfalso;first|omega|contradiction))|((with_reducible refine g_callf n_spec_BytesOf ?_);refine aw_rcall (s_spec_BytesOf (by omega) slr_auto) ?_)|((with_reducible refine g_idx ?_);((first|refine ix ?_|refine ixi ?_|(refine ixg ?_;intro _ _)|(refine ixgi ?_;intro _ _));first|rintro _ _ _ _ _ ⟨rfl,rfl⟩ _|rintro _ _ _ _ _ ⟨_,rfl,_⟩ _|rintro _ _ _ _ _ ⟨_,_,_,_,rfl,rfl,_,_⟩ _|intro _ _ _ _ _ _ _))|(refine sx ?_;intro _ _)|((with_reducible refine g_awp ?_);simp only [g0,g1,g2]))
      refine aw_addn (by unfold trailBytes at *; omega) (by unfold trailBytes at *; omega) ?_
      (repeat' first|refine vs ?_|(refine br ?_ ?_<;>intro _<;>try(exfalso;first|omega|contradiction))|((with_reducible refine g_idx ?_);((first|refine ix ?_|refine ixi ?_|(refine ixg ?_;intro _ _)|(refine ixgi ?_;intro _ _));first|rintro _ _ _ _ _ ⟨rfl,rfl⟩ _|rintro _ _ _ _ _ ⟨_,rfl,_⟩ _|rintro _ _ _ _ _ ⟨_,_,_,_,rfl,rfl,_,_⟩ _|intro _ _ _ _ _ _ _))|(refine sx ?_;intro _ _)|((with_reducible refine g_awp ?_);simp only [g0,g1,g2]))
      exact ⟨by omega, by rw [sumI_take _ htk2, Int.add_assoc]; rfl, by omega, ext_auto⟩
    · (repeat' first|refine vs ?_|(refine br ?_ ?_<;>intro _<;>try(exfalso;first|omega|contradiction))|((with_reducible refine g_idx ?_);((first|refine ix ?_|refine ixi ?_|(refine ixg ?_;intro _ _)|(refine ixgi ?_;intro _ _));first|rintro _ _ _ _ _ ⟨rfl,rfl⟩ _|rintro _ _ _ _ _ ⟨_,rfl,_⟩ _|rintro _ _ _ _ _ ⟨_,_,_,_,rfl,rfl,_,_⟩ _|intro _ _ _ _ _ _ _))|(refine sx ?_;intro _ _)|((with_reducible refine g_awp ?_);simp only [g0,g1,g2]))
      exact ⟨by omega, _, by rw [hhs, show j = x.l.length by omega, List.take_length]; rfl, by omega, ext_auto⟩
  · (repeat' first|refine vs ?_|(refine br ?_ ?_<;>intro _<;>try(exfalso;first|omega|contradiction))|((with_reducible refine g_idx ?_);((first|refine ix ?_|refine ixi ?_|(refine ixg ?_;intro _ _)|(refine ixgi ?_;intro _ _));first|rintro _ _ _ _ _ ⟨rfl,rfl⟩ _|rintro _ _ _ _ _ ⟨_,rfl,_⟩ _|rintro _ _ _ _ _ ⟨_,_,_,_,rfl,rfl,_,_⟩ _|intro _ _ _ _ _ _ _))|(refine sx ?_;intro _ _)|((with_reducible refine g_awp ?_);simp only [g0,g1,g2]))
    refine pi ?_ ext_auto
    rw [show i = l.length by omega, List.take_length]
end Go.Proofs.Ytpcgbddmdipfbaa
