/- A trail that is found; the oldest one. -/
import Derived.Test.YtpcgbddmdipfbaaW11
set_option linter.unusedSimpArgs false
set_option linter.unusedVariables false
set_option maxHeartbeats 1000000
namespace Go.Proofs.Ytpcgbddmdipfbaa
open Go Go.Ab
section
/- impl.FindTrail -/
def p_impl_FindTrail (x0 x1 : AV) : Prog := .op (.alloc [AV.int .i64 0, AV.int .i64 0, AV.int .i64 0, AV.nils]) fun v1 => .op (.len 0 x0) fun v2 => .op (.bin 0 .eql v2 (AV.int .i64 0)) fun v3 => .ite v3 (.op (.build [AV.int .i64 0, AV.int .i64 0, AV.int .i64 0, AV.nils] []) fun v4 => .op (.st 4 v1 v4) fun v5 => .fin [.cn 4 v1, .val (AV.bool false)]) (.op (.len 0 x0) fun v6 => .op (.call n_impl_StripeOf [x1, v6]) fun v7 => .op (.idx 2 x0 v7) fun v8 => .op (.ldn 2 v8) fun v9 => .op (.alloc [AV.int .i64 0, AV.nils]) fun v10 => .op (.st 2 v10 v9) fun v11 => .op (.fad 1 v10) fun v12 => .op (.ld1 v12) fun v13 => .op (.call n_impl_TrailAt [v13, x1]) fun v14 => .op (.bin 0 .lss v14 (AV.int .i64 0)) fun v15 => .ite v15 (.op (.build [AV.int .i64 0, AV.int .i64 0, AV.int .i64 0, AV.nils] []) fun v16 => .op (.st 4 v1 v16) fun v17 => .fin [.cn 4 v1, .val (AV.bool false)]) (.op (.fad 1 v10) fun v18 => .op (.ld1 v18) fun v19 => .op (.idx 4 v19 v14) fun v20 => .op (.ldn 4 v20) fun v21 => .op (.call n_impl_copyTrail [v21]) fun v22 => .op (.st 4 v1 v22) fun v23 => .fin [.cn 4 v1, .val (AV.bool true)]))
theorem c_impl_FindTrail (x0 x1 : AV) : CC Try.prog n_impl_FindTrail [x0, x1] (p_impl_FindTrail x0 x1) := cc Try.func105 [] (fun _ => []) (by kernel_rfl)
/- spec.FindTrail -/
def p_spec_FindTrail (x0 x1 : AV) : Prog := .op (.alloc [AV.int .i64 0, AV.int .i64 0, AV.int .i64 0, AV.nils]) fun v1 => .op (.len 0 x0) fun v2 => .op (.bin 0 .eql v2 (AV.int .i64 0)) fun v3 => .ite v3 (.op (.build [AV.int .i64 0, AV.int .i64 0, AV.int .i64 0, AV.nils] []) fun v4 => .op (.st 4 v1 v4) fun v5 => .fin [.cn 4 v1, .val (AV.bool false)]) (.op (.len 0 x0) fun v6 => .op (.call n_spec_StripeOf [x1, v6]) fun v7 => .op (.idx 2 x0 v7) fun v8 => .op (.ldn 2 v8) fun v9 => .op (.alloc [AV.int .i64 0, AV.nils]) fun v10 => .op (.st 2 v10 v9) fun v11 => .op (.fad 1 v10) fun v12 => .op (.ld1 v12) fun v13 => .op (.call n_spec_TrailAt [v13, x1]) fun v14 => .op (.bin 0 .lss v14 (AV.int .i64 0)) fun v15 => .ite v15 (.op (.build [AV.int .i64 0, AV.int .i64 0, AV.int .i64 0, AV.nils] []) fun v16 => .op (.st 4 v1 v16) fun v17 => .fin [.cn 4 v1, .val (AV.bool false)]) (.op (.fad 1 v10) fun v18 => .op (.ld1 v18) fun v19 => .op (.idx 4 v19 v14) fun v20 => .op (.ldn 4 v20) fun v21 => .op (.call n_spec_l10Copy [v21]) fun v22 => .op (.st 4 v1 v22) fun v23 => .fin [.cn 4 v1, .val (AV.bool true)]))
theorem c_spec_FindTrail (x0 x1 : AV) : CC Try.prog n_spec_FindTrail [x0, x1] (p_spec_FindTrail x0 x1) := cc Try.func106 [] (fun _ => []) (by kernel_rfl)
/- impl.Older -/
def p_impl_Older (x0 x1 : AV) : Prog := .op (.box x0) fun v1 => .op (.box x1) fun v2 => .op (.fad 2 v1) fun v3 => .op (.ld1 v3) fun v4 => .op (.fad 2 v2) fun v5 => .op (.ld1 v5) fun v6 => .op (.bin 0 .lss v4 v6) fun v7 => .gop v7 false (.fad 2 v1) fun v8 => .gop v7 false (.ld1 v8) fun v9 => .gop v7 false (.fad 2 v2) fun v10 => .gop v7 false (.ld1 v10) fun v11 => .gop v7 false (.bin 0 .eql v9 v11) fun v12 => .gop v7 false (.mv v12) fun v13 => .gop v13 true (.fad 1 v1) fun v14 => .gop v13 true (.ld1 v14) fun v15 => .gop v13 true (.fad 1 v2) fun v16 => .gop v13 true (.ld1 v16) fun v17 => .gop v13 true (.bin 0 .lss v15 v17) fun v18 => .gop v7 false (.pick v13 v18 (AV.bool false)) fun v19 => .op (.pick v7 (AV.bool true) v19) fun v20 => .fin [.val v20]
theorem c_impl_Older (x0 x1 : AV) : CC Try.prog n_impl_Older [x0, x1] (p_impl_Older x0 x1) := cc Try.func93 [] (fun _ => []) (by kernel_rfl)
/- spec.Older -/
def p_spec_Older (x0 x1 : AV) : Prog := .op (.box x0) fun v1 => .op (.box x1) fun v2 => .op (.fad 2 v1) fun v3 => .op (.ld1 v3) fun v4 => .op (.fad 2 v2) fun v5 => .op (.ld1 v5) fun v6 => .op (.bin 0 .lss v4 v6) fun v7 => .gop v7 false (.fad 2 v1) fun v8 => .gop v7 false (.ld1 v8) fun v9 => .gop v7 false (.fad 2 v2) fun v10 => .gop v7 false (.ld1 v10) fun v11 => .gop v7 false (.bin 0 .eql v9 v11) fun v12 => .gop v7 false (.mv v12) fun v13 => .gop v13 true (.fad 1 v1) fun v14 => .gop v13 true (.ld1 v14) fun v15 => .gop v13 true (.fad 1 v2) fun v16 => .gop v13 true (.ld1 v16) fun v17 => .gop v13 true (.bin 0 .lss v15 v17) fun v18 => .gop v7 false (.pick v13 v18 (AV.bool false)) fun v19 => .op (.pick v7 (AV.bool true) v19) fun v20 => .fin [.val v20]
theorem c_spec_Older (x0 x1 : AV) : CC Try.prog n_spec_Older [x0, x1] (p_spec_Older x0 x1) := cc Try.func94 [] (fun _ => []) (by kernel_rfl)
/- impl.OldestOf -/
def p_impl_OldestOf (x0 : AV) : Prog := .op (.alloc [AV.int .i64 0, AV.int .i64 0, AV.int .i64 0, AV.nils]) fun v1 => .op (.call n_impl_allTrails [x0]) fun v2 => .op (.len 0 v2) fun v3 => .op (.bin 0 .eql v3 (AV.int .i64 0)) fun v4 => .ite v4 (.op (.build [AV.int .i64 0, AV.int .i64 0, AV.int .i64 0, AV.nils] []) fun v5 => .op (.st 4 v1 v5) fun v6 => .fin [.cn 4 v1, .val (AV.bool false)]) (.op (.idx 4 v2 (AV.int .i64 0)) fun v7 => .op (.ldn 4 v7) fun v8 => .op (.alloc [AV.int .i64 0, AV.int .i64 0, AV.int .i64 0, AV.nils]) fun v9 => .op (.st 4 v9 v8) fun v10 => .op (.len 0 v2) fun v11 => .loop [AV.int .i64 0] (fun vs12 => .op (.bin 0 .lss (g vs12 0) v11) fun v14 => .ite v14 (.op (.idx 4 v2 (g vs12 0)) fun v15 => .op (.ldn 4 v15) fun v16 => .op (.alloc [AV.int .i64 0, AV.int .i64 0, AV.int .i64 0, AV.nils]) fun v17 => .op (.st 4 v17 v16) fun v18 => .op (.ldn 4 v17) fun v19 => .op (.ldn 4 v9) fun v20 => .op (.call n_impl_Older [v19, v20]) fun v21 => .scope (.ite v21 (.op (.ldn 4 v17) fun v22 => .op (.st 4 v9 v22) fun v23 => .leaf 0 []) (.leaf 0 [])) (fun vs24 => .op (.bin 0 .add (g vs12 0) (AV.int .i64 1)) fun v26 => .leaf 0 [v26]) fun t25 vs24 => tsel t25 1 (.leaf 1 vs24) .bad) (.leaf 2 [g vs12 0])) fun t13 vs12 => tsel t13 1 (.leaf 1 vs12) (tsel t13 2 (.op (.ldn 4 v9) fun v27 => .op (.st 4 v1 v27) fun v28 => .fin [.cn 4 v1, .val (AV.bool true)]) .bad))
theorem c_impl_OldestOf (x0 : AV) : CC Try.prog n_impl_OldestOf [x0] (p_impl_OldestOf x0) := cc Try.func108 [2, 5, 17, 18, 19] (fun _ => []) (by kernel_rfl)
/- spec.OldestOf -/
def p_spec_OldestOf (x0 : AV) : Prog := .op (.alloc [AV.int .i64 0, AV.int .i64 0, AV.int .i64 0, AV.nils]) fun v1 => .op (.build [AV.int .i64 0, AV.int .i64 0, AV.int .i64 0, AV.nils] []) fun v2 => .op (.alloc [AV.int .i64 0, AV.int .i64 0, AV.int .i64 0, AV.nils]) fun v3 => .op (.st 4 v3 v2) fun v4 => .loop [AV.bool false, AV.int .i64 0, .tup []] (fun vs5 => .op (.len 0 x0) fun v7 => .op (.bin 0 .lss (g vs5 1) v7) fun v8 => .ite v8 (.loop [g vs5 0, AV.int .i64 0] (fun vs9 => .op (.idx 2 x0 (g vs5 1)) fun v11 => .op (.fad 1 v11) fun v12 => .op (.ld1 v12) fun v13 => .op (.len 0 v13) fun v14 => .op (.bin 0 .lss (g vs9 1) v14) fun v15 => .ite v15 (.op (.una .not (g vs9 0)) fun v16 => .gop v16 false (.mv x0) fun v17 => .gop v16 false (.mv (g vs5 1)) fun v18 => .gop v16 false (.idx 2 v17 v18) fun v19 => .gop v16 false (.fad 1 v19) fun v20 => .gop v16 false (.ld1 v20) fun v21 => .gop v16 false (.mv (g vs9 1)) fun v22 => .gop v16 false (.idx 4 v21 v22) fun v23 => .gop v16 false (.ldn 4 v23) fun v24 => .gop v16 false (.ldn 4 v3) fun v25 => .gop v16 false (.call n_spec_Older [v24, v25]) fun v26 => .op (.pick v16 (AV.bool true) v26) fun v27 => .scope (.ite v27 (.op (.idx 2 x0 (g vs5 1)) fun v28 => .op (.fad 1 v28) fun v29 => .op (.ld1 v29) fun v30 => .op (.idx 4 v30 (g vs9 1)) fun v31 => .op (.ldn 4 v31) fun v32 => .op (.st 4 v3 v32) fun v33 => .leaf 0 [AV.bool true]) (.leaf 0 [g vs9 0])) (fun vs34 => .op (.bin 0 .add (g vs9 1) (AV.int .i64 1)) fun v36 => .leaf 0 [g vs34 0, v36]) fun t35 vs34 => tsel t35 1 (.leaf 1 vs34) .bad) (.leaf 4 [g vs9 0, g vs9 1])) fun t10 vs9 => tsel t10 1 (.leaf 1 vs9) (tsel t10 4 (.op (.bin 0 .add (g vs5 1) (AV.int .i64 1)) fun v37 => .leaf 0 [g vs9 0, v37, g vs9 1]) .bad)) (.leaf 2 [g vs5 0, g vs5 1, g vs5 2])) fun t6 vs5 => tsel t6 1 (.leaf 1 vs5) (tsel t6 2 (.op (.ldn 4 v3) fun v38 => .op (.call n_spec_l10Copy [v38]) fun v39 => .op (.st 4 v1 v39) fun v40 => .fin [.cn 4 v1, .val (g vs5 0)]) .bad)
theorem c_spec_OldestOf (x0 : AV) : CC Try.prog n_spec_OldestOf [x0] (p_spec_OldestOf x0) := cc Try.func109 [0, 2, 4, 5, 6, 7] (fun r => if r = 9 then [(0, []), (1, []), (2, []), (3, []), (4, []), (5, []), (6, []), (7, []), (8, []), (9, []), (10, []), (11, []), (12, []), (13, [])] else []) (by kernel_rfl)
end
theorem idx_b {α : Type} (p : α → Bool) (xs : List α) : idx p xs = -1 ∨ (0 ≤ idx p xs ∧ (idx p xs).toNat < xs.length) := by
  rcases idx_cases p xs with ⟨e, -⟩ | ⟨i, x, e, hx, -, -⟩
  · exact .inl e
  · have := (List.getElem?_eq_some_iff.1 hx).1
    right; omega
def zeroT : Trail := ⟨0, 0, 0, []⟩
theorem sz_zeroT : Sz.sz zeroT ≤ 67108864 := by decide
/-- What is handed back: a value of one's own, and whether it was there. -/
def NewXB (α : Type) [Cel α] (h : AH) (x : α) (b : Bool) : AV → AH → Prop := fun u h' => Ext h h' ∧ ∃ cs F, u = .tup [.agg cs, .bool b] ∧ Cel.rep h' x cs F ∧ Own h.n h' F
def inStripe (x : Stripe) (id : Int) : Option Trail := if idx (isId id) x.l < 0 then none else x.l[(idx (isId id) x.l).toNat]?
def findO (l : List Stripe) (id : Int) : Option Trail := match l[(stripe id l.length).toNat]? with
  | none => none
  | some x => inStripe x id
def findT (l : List Stripe) (id : Int) : Trail := (findO l id).getD zeroT
def findB (l : List Stripe) (id : Int) : Bool := (findO l id).isSome
theorem find_n {l : List Stripe} {id : Int} (h : findO l id = none) : findT l id = zeroT ∧ findB l id = false := by simp [findT, findB, h]
theorem find_s {l : List Stripe} {id : Int} {t : Trail} (h : findO l id = some t) : findT l id = t ∧ findB l id = true := by simp [findT, findB, h]
theorem rep_zeroT {h : AH} : Cel.rep h zeroT [.int .i64 0, .int .i64 0, .int .i64 0, .nils] [] := ⟨.nils, rfl, SlRep.nils⟩
theorem s_impl_FindTrail {h : AH} {l : List Stripe} {v : AV} {F : List Nat} {id : Int} (hs : l.length + szs l ≤ 67108864) (r : SlRep h v l F) : ACalls Try.prog n_impl_FindTrail [v, .int .i64 id] h (NewXB Trail h (findT l id) (findB l id)) := by
  refine c_impl_FindTrail _ _ ?_
  unfold p_impl_FindTrail
  have hsm := r.small
  have hst : l.length = 0 ∨ (0 ≤ stripe id l.length ∧ stripe id l.length < l.length) := by
    by_cases e : l.length = 0
    · exact .inl e
    · exact .inr (stripe_b (by omega))
  (repeat' first|refine vs ?_|(refine br ?_ ?_<;>intro _<;>try(exfalso;first|omega|contradiction))|((with_reducible refine g_callf n_impl_StripeOf ?_);refine aw_rcall s_impl_StripeOf ?_)|((with_reducible refine g_callf n_impl_TrailAt ?_);refine aw_rcall (s_impl_TrailAt slr_auto) ?_)|((with_reducible refine g_idx ?_);((first|refine ix ?_|refine ixi ?_|(refine ixg ?_;intro _ _)|(refine ixgi ?_;intro _ _));first|rintro _ _ _ _ _ ⟨rfl,rfl⟩ _|rintro _ _ _ _ _ ⟨_,rfl,_⟩ _|rintro _ _ _ _ _ ⟨_,_,_,_,rfl,rfl,_,_⟩ _|intro _ _ _ _ _ _ _))|(refine sx ?_;intro _ _)|((with_reducible refine g_awp ?_);simp only [g0,g1,g2]))
  · rename_i e
    have : findO l id = none := by unfold findO; rw [List.getElem?_eq_none (by omega)]
    rw [(find_n this).1, (find_n this).2]
    exact ⟨rfl, _, rfl, ext_auto, _, [], rfl, rep_zeroT, Own.nil⟩
  · rename_i x hx b o Fi a w hrep hsub hlt
    have : findO l id = none := by unfold findO; rw [hx]; simp only [inStripe]; rw [if_pos hlt]
    rw [(find_n this).1, (find_n this).2]
    exact ⟨rfl, _, rfl, ext_auto, _, [], rfl, rep_zeroT, Own.nil⟩
  · rename_i x hx b o Fi a w hrep hsub hlt
    have hb := idx_b (isId id) x.l
    have hm := szs_mem (List.mem_of_getElem? hx)
    have hx2 : Sz.sz x = x.l.length + szs x.l := rfl
    obtain ⟨t, ht, -, -⟩ := drop_step (show (idx (isId id) x.l).toNat < x.l.length by omega)
    have hm2 := szs_mem (List.mem_of_getElem? ht)
    have : findO l id = some t := by unfold findO; rw [hx]; simp only [inStripe]; rw [if_neg hlt]; exact ht
    rw [(find_s this).1, (find_s this).2]
    (repeat' first|refine vs ?_|(refine br ?_ ?_<;>intro _<;>try(exfalso;first|omega|contradiction))|((with_reducible refine g_callf n_impl_copyTrail ?_);(refine aw_call (s_impl_copyTrail t (by omega) _ _ _ ⟨_, rfl, slr_auto⟩) ?_; rintro _ h2 ⟨e2, _, G2, rfl, ⟨w2, rfl, q2⟩, o2⟩; have n2 := e2.1; (try simp only [push_n, upd_n] at n2)))|((with_reducible refine g_idx ?_);((first|refine ix ?_|refine ixi ?_|(refine ixg ?_;intro _ _)|(refine ixgi ?_;intro _ _));first|rintro _ _ _ _ _ ⟨rfl,rfl⟩ _|rintro _ _ _ _ _ ⟨_,rfl,_⟩ _|rintro _ _ _ _ _ ⟨_,_,_,_,rfl,rfl,_,_⟩ _|intro _ _ _ _ _ _ _))|(refine sx ?_;intro _ _)|((with_reducible refine g_awp ?_);simp only [g0,g1,g2]))
    exact ⟨rfl, _, rfl, ext_auto, _, _, rfl, ⟨_, rfl, slr_auto⟩, ol_auto⟩
theorem s_spec_FindTrail {h : AH} {l : List Stripe} {v : AV} {F : List Nat} {id : Int} (hs : l.length + szs l ≤ 67108864) (r : SlRep h v l F) : ACalls Try.prog n_spec_FindTrail [v, .int .i64 id] h (NewXB Trail h (findT l id) (findB l id)) := by
  refine c_spec_FindTrail _ _ ?_
  unfold p_spec_FindTrail
  have hsm := r.small
  have hst : l.length = 0 ∨ (0 ≤ stripe id l.length ∧ stripe id l.length < l.length) := by
    by_cases e : l.length = 0
    · exact .inl e
    · exact .inr (stripe_b (by omega))
  (repeat' first|refine vs ?_|(refine br ?_ ?_<;>intro _<;>try(exfalso;first|omega|contradiction))|((with_reducible refine g_callf n_spec_StripeOf ?_);refine aw_rcall s_spec_StripeOf ?_)|((with_reducible refine g_callf n_spec_TrailAt ?_);refine aw_rcall (s_spec_TrailAt slr_auto) ?_)|((with_reducible refine g_idx ?_);((first|refine ix ?_|refine ixi ?_|(refine ixg ?_;intro _ _)|(refine ixgi ?_;intro _ _));first|rintro _ _ _ _ _ ⟨rfl,rfl⟩ _|rintro _ _ _ _ _ ⟨_,rfl,_⟩ _|rintro _ _ _ _ _ ⟨_,_,_,_,rfl,rfl,_,_⟩ _|intro _ _ _ _ _ _ _))|(refine sx ?_;intro _ _)|((with_reducible refine g_awp ?_);simp only [g0,g1,g2]))
  · rename_i e
    have : findO l id = none := by unfold findO; rw [List.getElem?_eq_none (by omega)]
    rw [(find_n this).1, (find_n this).2]
    exact ⟨rfl, _, rfl, ext_auto, _, [], rfl, rep_zeroT, Own.nil⟩
  · rename_i x hx b o Fi a w hrep hsub hlt
    have : findO l id = none := by unfold findO; rw [hx]; simp only [inStripe]; rw [if_pos hlt]
    rw [(find_n this).1, (find_n this).2]
    exact ⟨rfl, _, rfl, ext_auto, _, [], rfl, rep_zeroT, Own.nil⟩
  · rename_i x hx b o Fi a w hrep hsub hlt
    have hb := idx_b (isId id) x.l
    have hm := szs_mem (List.mem_of_getElem? hx)
    have hx2 : Sz.sz x = x.l.length + szs x.l := rfl
    obtain ⟨t, ht, -, -⟩ := drop_step (show (idx (isId id) x.l).toNat < x.l.length by omega)
    have hm2 := szs_mem (List.mem_of_getElem? ht)
    have : findO l id = some t := by unfold findO; rw [hx]; simp only [inStripe]; rw [if_neg hlt]; exact ht
    rw [(find_s this).1, (find_s this).2]
    (repeat' first|refine vs ?_|(refine br ?_ ?_<;>intro _<;>try(exfalso;first|omega|contradiction))|((with_reducible refine g_callf n_spec_l10Copy ?_);(refine aw_call (s_spec_l10Copy t (by omega) _ _ _ ⟨_, rfl, slr_auto⟩) ?_; rintro _ h2 ⟨e2, _, G2, rfl, ⟨w2, rfl, q2⟩, o2⟩; have n2 := e2.1; (try simp only [push_n, upd_n] at n2)))|((with_reducible refine g_idx ?_);((first|refine ix ?_|refine ixi ?_|(refine ixg ?_;intro _ _)|(refine ixgi ?_;intro _ _));first|rintro _ _ _ _ _ ⟨rfl,rfl⟩ _|rintro _ _ _ _ _ ⟨_,rfl,_⟩ _|rintro _ _ _ _ _ ⟨_,_,_,_,rfl,rfl,_,_⟩ _|intro _ _ _ _ _ _ _))|(refine sx ?_;intro _ _)|((with_reducible refine g_awp ?_);simp only [g0,g1,g2]))
    exact ⟨rfl, _, rfl, ext_auto, _, _, rfl, ⟨_, rfl, slr_auto⟩, ol_auto⟩

/-! ### The oldest trail -/
def older (a b : Trail) : Prop := a.first < b.first ∨ (a.first = b.first ∧ a.stamp < b.stamp)
theorem s_impl_Older {h : AH} {a b : Trail} {v v' : AV} : RCalls Try.prog n_impl_Older [.agg (a.cs v), .agg (b.cs v')] h (.bool (bp (older a b))) := by
  refine reader (c_impl_Older _ _) (by simp only [old]) ?_
  unfold p_impl_Older
  (repeat' first|refine vs ?_|(refine br ?_ ?_<;>intro _<;>try(exfalso;first|omega|contradiction))|((with_reducible refine g_idx ?_);((first|refine ix ?_|refine ixi ?_|(refine ixg ?_;intro _ _)|(refine ixgi ?_;intro _ _));first|rintro _ _ _ _ _ ⟨rfl,rfl⟩ _|rintro _ _ _ _ _ ⟨_,rfl,_⟩ _|rintro _ _ _ _ _ ⟨_,_,_,_,rfl,rfl,_,_⟩ _|intro _ _ _ _ _ _ _))|(refine sx ?_;intro _ _)|((with_reducible refine g_awp ?_);simp only [g0,g1,g2]))
  all_goals first
    | (refine pt ?_; unfold older; omega)
    | (refine pf ?_; unfold older; omega)
theorem s_spec_Older {h : AH} {a b : Trail} {v v' : AV} : RCalls Try.prog n_spec_Older [.agg (a.cs v), .agg (b.cs v')] h (.bool (bp (older a b))) := by
  refine reader (c_spec_Older _ _) (by simp only [old]) ?_
  unfold p_spec_Older
  (repeat' first|refine vs ?_|(refine br ?_ ?_<;>intro _<;>try(exfalso;first|omega|contradiction))|((with_reducible refine g_idx ?_);((first|refine ix ?_|refine ixi ?_|(refine ixg ?_;intro _ _)|(refine ixgi ?_;intro _ _));first|rintro _ _ _ _ _ ⟨rfl,rfl⟩ _|rintro _ _ _ _ _ ⟨_,rfl,_⟩ _|rintro _ _ _ _ _ ⟨_,_,_,_,rfl,rfl,_,_⟩ _|intro _ _ _ _ _ _ _))|(refine sx ?_;intro _ _)|((with_reducible refine g_awp ?_);simp only [g0,g1,g2]))
  all_goals first
    | (refine pt ?_; unfold older; omega)
    | (refine pf ?_; unfold older; omega)
noncomputable def oldStep (b : Option Trail) (t : Trail) : Option Trail := match b with
  | none => some t
  | some b => if bp (older t b) = true then some t else some b
noncomputable def oldest (l : List Trail) : Option Trail := l.foldl oldStep none
theorem old_y {b t : Trail} (h : older t b) : oldStep (some b) t = some t := by simp [oldStep, bp_t h]
theorem old_n {b t : Trail} (h : ¬ older t b) : oldStep (some b) t = some b := by simp [oldStep, bp_f h]
theorem old_0 {a : Trail} {l : List Trail} : (a :: l).foldl oldStep (some a) = oldest (a :: l) := by
  have : ¬ older a a := by unfold older; omega
  simp only [List.foldl_cons, old_n this, oldest]
  rfl
theorem fold_s {l : List Trail} {i : Nat} {x : Trail} {z : Option Trail} (ht : l.take (i + 1) = l.take i ++ [x]) : (l.take (i + 1)).foldl oldStep z = oldStep ((l.take i).foldl oldStep z) x := by rw [ht, List.foldl_append]; rfl
theorem s_impl_OldestOf {h : AH} {l : List Stripe} {v : AV} {F : List Nat} (hs : l.length + szs l ≤ 67108864) (r : SlRep h v l F) : ACalls Try.prog n_impl_OldestOf [v] h (NewXB Trail h ((oldest (allT l)).getD zeroT) (oldest (allT l)).isSome) := by
  refine c_impl_OldestOf _ ?_
  unfold p_impl_OldestOf
  refine vs ?_
  refine aw_call (s_impl_allTrails hs slr_auto) ?_
  rintro w1 h1 ⟨e1, G1, q1, o1⟩
  have n1 := e1.1
  simp only [push_n] at n1 o1
  have hall := allT_b l
  refine aw_len q1 ?_
  refine br (fun h0 => ?_) (fun h0 => ?_)
  · have : allT l = [] := List.length_eq_zero_iff.1 (by omega)
    (repeat' first|refine vs ?_|(refine br ?_ ?_<;>intro _<;>try(exfalso;first|omega|contradiction))|((with_reducible refine g_idx ?_);((first|refine ix ?_|refine ixi ?_|(refine ixg ?_;intro _ _)|(refine ixgi ?_;intro _ _));first|rintro _ _ _ _ _ ⟨rfl,rfl⟩ _|rintro _ _ _ _ _ ⟨_,rfl,_⟩ _|rintro _ _ _ _ _ ⟨_,_,_,_,rfl,rfl,_,_⟩ _|intro _ _ _ _ _ _ _))|(refine sx ?_;intro _ _)|((with_reducible refine g_awp ?_);simp only [g0,g1,g2]))
    rw [this]
    exact ⟨rfl, _, rfl, ext_auto, _, [], rfl, rep_zeroT, Own.nil⟩
  · obtain ⟨a0, ha0, hd0, -⟩ := drop_step (show 0 < (allT l).length by omega)
    refine vs ?_
    refine aw_idxo (i := 0) q1 o1 ha0 rfl ?_
    rintro b o _ Fi a ⟨v0, rfl, r0⟩ _ oi
    (repeat' first|refine vs ?_|(refine br ?_ ?_<;>intro _<;>try(exfalso;first|omega|contradiction))|((with_reducible refine g_idx ?_);((first|refine ix ?_|refine ixi ?_|(refine ixg ?_;intro _ _)|(refine ixgi ?_;intro _ _));first|rintro _ _ _ _ _ ⟨rfl,rfl⟩ _|rintro _ _ _ _ _ ⟨_,rfl,_⟩ _|rintro _ _ _ _ _ ⟨_,_,_,_,rfl,rfl,_,_⟩ _|intro _ _ _ _ _ _ _))|(refine sx ?_;intro _ _)|((with_reducible refine g_awp ?_);simp only [g0,g1,g2]))
    refine aw_upto (allT l).length (fun i vs h2 => ∃ t vb Fb, vs = [.int .i64 (i : Int)] ∧ i ≤ (allT l).length ∧ Ext h1 h2 ∧ Bk h2 h1.n [.int .i64 t.id, .int .i64 t.stamp, .int .i64 t.first, vb] 0 ∧ SlRep h1 vb t.spans Fb ∧ Own (h.n + 1) h1 Fb ∧ ((allT l).take i).foldl oldStep (some a0) = some t) ⟨a0, v0, Fi, rfl, Nat.zero_le _, ext_auto, bk_auto, r0, oi, rfl⟩ ?_
    rintro i vs h2 _ ⟨t, vb, Fb, rfl, hi, e2, bk, rb, ob, hf⟩
    have n2 := e2.1
    have nb := bk.1
    simp only [g0]
    refine br (fun hlt => ?_) (fun hge => ?_)
    · obtain ⟨x, hx, -, htk⟩ := drop_step (show i < (allT l).length by omega)
      refine vs ?_
      refine aw_idxo q1 o1 hx rfl ?_
      rintro b' o' _ Fi' a' ⟨v', rfl, r'⟩ _ oi'
      have rr' := slr_ext1 e2 r'
      (repeat' first|refine vs ?_|(refine br ?_ ?_<;>intro _<;>try(exfalso;first|omega|contradiction))|((with_reducible refine g_callf n_impl_Older ?_);(refine aw_rcall_b s_impl_Older ?_ ?_ <;> intro hn <;> first | replace hn := bp_true hn | replace hn := bp_false hn))|((with_reducible refine g_idx ?_);((first|refine ix ?_|refine ixi ?_|(refine ixg ?_;intro _ _)|(refine ixgi ?_;intro _ _));first|rintro _ _ _ _ _ ⟨rfl,rfl⟩ _|rintro _ _ _ _ _ ⟨_,rfl,_⟩ _|rintro _ _ _ _ _ ⟨_,_,_,_,rfl,rfl,_,_⟩ _|intro _ _ _ _ _ _ _))|(refine sx ?_;intro _ _)|((with_reducible refine g_awp ?_);simp only [g0,g1,g2]))
      · exact ⟨by omega, x, v', Fi', rfl, by omega, ext_auto, bk_auto, r', oi', by rw [fold_s htk, hf, old_y hn]⟩
      · exact ⟨by omega, t, vb, Fb, rfl, by omega, ext_auto, bk_auto, rb, ob, by rw [fold_s htk, hf, old_n hn]⟩
    · rw [show i = (allT l).length by omega, List.take_length] at hf
      have hA : allT l = a0 :: (allT l).drop 1 := by simpa using hd0
      have hold : oldest (allT l) = some t := by rw [← hf]; conv => lhs; rw [hA]
                                                 rw [← old_0, ← hA]
      rw [hold]
      (repeat' first|refine vs ?_|(refine br ?_ ?_<;>intro _<;>try(exfalso;first|omega|contradiction))|((with_reducible refine g_idx ?_);((first|refine ix ?_|refine ixi ?_|(refine ixg ?_;intro _ _)|(refine ixgi ?_;intro _ _));first|rintro _ _ _ _ _ ⟨rfl,rfl⟩ _|rintro _ _ _ _ _ ⟨_,rfl,_⟩ _|rintro _ _ _ _ _ ⟨_,_,_,_,rfl,rfl,_,_⟩ _|intro _ _ _ _ _ _ _))|(refine sx ?_;intro _ _)|((with_reducible refine g_awp ?_);simp only [g0,g1,g2]))
      exact ⟨rfl, _, rfl, ext_auto, _, _, rfl, ⟨_, rfl, slr_auto⟩, ol_auto⟩
theorem s_spec_OldestOf {h : AH} {l : List Stripe} {v : AV} {F : List Nat} (hs : l.length + szs l ≤ 67108864) (r : SlRep h v l F) : ACalls Try.prog n_spec_OldestOf [v] h (NewXB Trail h ((oldest (allT l)).getD zeroT) (oldest (allT l)).isSome) := by
  refine c_spec_OldestOf _ ?_
  unfold p_spec_OldestOf
  have hsm := r.small
  (repeat' first|refine vs ?_|(refine br ?_ ?_<;>intro _<;>try(exfalso;first|omega|contradiction))|((with_reducible refine g_idx ?_);((first|refine ix ?_|refine ixi ?_|(refine ixg ?_;intro _ _)|(refine ixgi ?_;intro _ _));first|rintro _ _ _ _ _ ⟨rfl,rfl⟩ _|rintro _ _ _ _ _ ⟨_,rfl,_⟩ _|rintro _ _ _ _ _ ⟨_,_,_,_,rfl,rfl,_,_⟩ _|intro _ _ _ _ _ _ _))|(refine sx ?_;intro _ _)|((with_reducible refine g_awp ?_);simp only [g0,g1,g2]))
  refine aw_upto l.length (fun i vs h2 => ∃ z vb Fb, vs = [.bool (oldest (allT (l.take i))).isSome, .int .i64 (i : Int), z] ∧ i ≤ l.length ∧ Ext (h.push ⟨[.int .i64 0, .int .i64 0, .int .i64 0, .nils], 0, 0⟩) h2 ∧ Bk h2 (h.n + 1) [.int .i64 ((oldest (allT (l.take i))).getD zeroT).id, .int .i64 ((oldest (allT (l.take i))).getD zeroT).stamp, .int .i64 ((oldest (allT (l.take i))).getD zeroT).first, vb] 0 ∧ SlRep h vb ((oldest (allT (l.take i))).getD zeroT).spans Fb ∧ Sz.sz ((oldest (allT (l.take i))).getD zeroT) ≤ 67108864) ⟨_, .nils, [], rfl, Nat.zero_le _, ext_auto, (show Bk _ _ [.int .i64 0, .int .i64 0, .int .i64 0, .nils] 0 from bk_auto), SlRep.nils, sz_zeroT⟩ ?_
  rintro i vs h2 _ ⟨z, vb, Fb, rfl, hi, e2, bk, rb, hz⟩
  have nb := bk.1
  have n2 := e2.1
  simp only [push_n] at n2
  simp only [g0, g1]
  refine aw_len r ?_
  refine br (fun hlt => ?_) (fun hge => ?_)
  · obtain ⟨x, hx, -, htk⟩ := drop_step (show i < l.length by omega)
    have hm := szs_mem (List.mem_of_getElem? hx)
    have hx2 : Sz.sz x = x.l.length + szs x.l := rfl
    have hss : oldest (allT (l.take (i + 1))) = x.l.foldl oldStep (oldest (allT (l.take i))) := by rw [allT_s htk]; simp [oldest, List.foldl_append]
    refine aw_ite_t ?_
    refine aw_upto x.l.length (fun j vs h3 => ∃ vb Fb, vs = [.bool ((x.l.take j).foldl oldStep (oldest (allT (l.take i)))).isSome, .int .i64 (j : Int)] ∧ j ≤ x.l.length ∧ Ext (h.push ⟨[.int .i64 0, .int .i64 0, .int .i64 0, .nils], 0, 0⟩) h3 ∧ Bk h3 (h.n + 1) [.int .i64 (((x.l.take j).foldl oldStep (oldest (allT (l.take i)))).getD zeroT).id, .int .i64 (((x.l.take j).foldl oldStep (oldest (allT (l.take i)))).getD zeroT).stamp, .int .i64 (((x.l.take j).foldl oldStep (oldest (allT (l.take i)))).getD zeroT).first, vb] 0 ∧ SlRep h vb (((x.l.take j).foldl oldStep (oldest (allT (l.take i)))).getD zeroT).spans Fb ∧ Sz.sz (((x.l.take j).foldl oldStep (oldest (allT (l.take i)))).getD zeroT) ≤ 67108864) ⟨vb, Fb, rfl, Nat.zero_le _, e2, bk, rb, hz⟩ ?_
    rintro j vs h3 _ ⟨vb, Fb, rfl, hj, e3, bk, rb, hz⟩
    have nb3 := bk.1
    have n3 := e3.1
    simp only [push_n] at n3
    simp only [g0, g1]
    refine aw_idx r hx rfl ?_
    rintro b o _ Fi a ⟨v0, rfl, r0⟩ _
    refine vs ?_
    refine br (fun hlt2 => ?_) (fun hge2 => ?_)
    · obtain ⟨y, hy, -, htk2⟩ := drop_step (show j < x.l.length by omega)
      have hm2 := szs_mem (List.mem_of_getElem? hy)
      cases hopt : (x.l.take j).foldl oldStep (oldest (allT (l.take i))) with
      | none =>
        have hnx : (x.l.take (j + 1)).foldl oldStep (oldest (allT (l.take i))) = some y := by rw [fold_s htk2, hopt]; rfl
        simp only [hopt, Option.isSome] at bk rb hz ⊢
        (repeat' first|refine vs ?_|(refine br ?_ ?_<;>intro _<;>try(exfalso;first|omega|contradiction))|((with_reducible refine g_idx ?_);((first|refine ix ?_|refine ixi ?_|(refine ixg ?_;intro _ _)|(refine ixgi ?_;intro _ _));first|rintro _ _ _ _ _ ⟨rfl,rfl⟩ _|rintro _ _ _ _ _ ⟨_,rfl,_⟩ _|rintro _ _ _ _ _ ⟨_,_,_,_,rfl,rfl,_,_⟩ _|intro _ _ _ _ _ _ _))|(refine sx ?_;intro _ _)|((with_reducible refine g_awp ?_);simp only [g0,g1,g2]))
        rename_i w' q' _ _
        exact ⟨by omega, w', _, by rw [hnx]; rfl, by omega, ext_auto, by rw [hnx]; exact (show Bk _ _ [.int .i64 y.id, .int .i64 y.stamp, .int .i64 y.first, w'] 0 from bk_auto), by rw [hnx]; exact q', by rw [hnx]; simp only [Option.getD]; omega⟩
      | some t =>
        simp only [hopt, Option.isSome, Option.getD] at bk rb hz ⊢
        (repeat' first|refine vs ?_|(refine br ?_ ?_<;>intro _<;>try(exfalso;first|omega|contradiction))|((with_reducible refine g_callf n_spec_Older ?_);(refine aw_rcall_b s_spec_Older ?_ ?_ <;> intro hn <;> first | replace hn := bp_true hn | replace hn := bp_false hn))|((with_reducible refine g_idx ?_);((first|refine ix ?_|refine ixi ?_|(refine ixg ?_;intro _ _)|(refine ixgi ?_;intro _ _));first|rintro _ _ _ _ _ ⟨rfl,rfl⟩ _|rintro _ _ _ _ _ ⟨_,rfl,_⟩ _|rintro _ _ _ _ _ ⟨_,_,_,_,rfl,rfl,_,_⟩ _|intro _ _ _ _ _ _ _))|(refine sx ?_;intro _ _)|((with_reducible refine g_awp ?_);simp only [g0,g1,g2]))
        · have hnx : (x.l.take (j + 1)).foldl oldStep (oldest (allT (l.take i))) = some y := by rw [fold_s htk2, hopt, old_y hn]
          rename_i w' q' _ _
          exact ⟨by omega, w', _, by rw [hnx]; rfl, by omega, ext_auto, by rw [hnx]; exact (show Bk _ _ [.int .i64 y.id, .int .i64 y.stamp, .int .i64 y.first, w'] 0 from bk_auto), by rw [hnx]; exact q', by rw [hnx]; simp only [Option.getD]; omega⟩
        · have hnx : (x.l.take (j + 1)).foldl oldStep (oldest (allT (l.take i))) = some t := by rw [fold_s htk2, hopt, old_n hn]
          exact ⟨by omega, vb, _, by rw [hnx]; rfl, by omega, ext_auto, by rw [hnx]; exact (show Bk _ _ [.int .i64 t.id, .int .i64 t.stamp, .int .i64 t.first, vb] 0 from bk_auto), by rw [hnx]; exact rb, by rw [hnx]; simp only [Option.getD]; omega⟩
    · have e : j = x.l.length := by omega
      rw [e, List.take_length, ← hss] at bk rb hz
      (repeat' first|refine vs ?_|(refine br ?_ ?_<;>intro _<;>try(exfalso;first|omega|contradiction))|((with_reducible refine g_idx ?_);((first|refine ix ?_|refine ixi ?_|(refine ixg ?_;intro _ _)|(refine ixgi ?_;intro _ _));first|rintro _ _ _ _ _ ⟨rfl,rfl⟩ _|rintro _ _ _ _ _ ⟨_,rfl,_⟩ _|rintro _ _ _ _ _ ⟨_,_,_,_,rfl,rfl,_,_⟩ _|intro _ _ _ _ _ _ _))|(refine sx ?_;intro _ _)|((with_reducible refine g_awp ?_);simp only [g0,g1,g2]))
      exact ⟨by omega, _, _, _, by rw [hss, e, List.take_length]; rfl, by omega, ext_auto, bk, rb, hz⟩
  · have e : i = l.length := by omega
    rw [e, List.take_length] at bk rb hz
    rw [e, List.take_length]
    (repeat' first|refine vs ?_|(refine br ?_ ?_<;>intro _<;>try(exfalso;first|omega|contradiction))|((with_reducible refine g_callf n_spec_l10Copy ?_);(refine aw_call (s_spec_l10Copy _ hz _ _ _ ⟨_, rfl, slr_auto⟩) ?_; rintro _ h4 ⟨e4, _, G4, rfl, ⟨w4, rfl, q4⟩, o4⟩; have n4 := e4.1; (try simp only [push_n, upd_n] at n4)))|((with_reducible refine g_idx ?_);((first|refine ix ?_|refine ixi ?_|(refine ixg ?_;intro _ _)|(refine ixgi ?_;intro _ _));first|rintro _ _ _ _ _ ⟨rfl,rfl⟩ _|rintro _ _ _ _ _ ⟨_,rfl,_⟩ _|rintro _ _ _ _ _ ⟨_,_,_,_,rfl,rfl,_,_⟩ _|intro _ _ _ _ _ _ _))|(refine sx ?_;intro _ _)|((with_reducible refine g_awp ?_);simp only [g0,g1,g2]))
    exact ⟨rfl, _, rfl, ext_auto, _, _, rfl, ⟨_, rfl, slr_auto⟩, ol_auto⟩
end Go.Proofs.Ytpcgbddmdipfbaa
