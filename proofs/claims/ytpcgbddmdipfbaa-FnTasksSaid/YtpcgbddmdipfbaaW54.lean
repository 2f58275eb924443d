
/- Tasks, drawn; spans that are the same. -/
import Derived.Test.YtpcgbddmdipfbaaW53
set_option linter.unusedSimpArgs false
set_option linter.unusedVariables false
set_option maxHeartbeats 2000000
namespace Go.Proofs.Ytpcgbddmdipfbaa
open Go Go.Ab
section
/- spec.DrawTaskOk -/
def p_spec_DrawTaskOk (x0 : AV) : Prog := .op (.alloc z12_f83) fun v1 => .op (.call n_spec_l1New [x0]) fun v2 => .op (.call n_spec_l14Any [v2]) fun v3 => .op (.alloc z12_f83) fun v4 => .op (.st 12 v4 v3) fun v5 => .op (.call n_spec_l1Below [v2, AV.int .i64 3]) fun v6 => .op (.fad 0 v4) fun v7 => .op (.ld1 v7) fun v8 => .op (.bin 0 .eql v8 (AV.int .i64 2)) fun v9 => .scope (.ite v9 (.op (.call n_spec_l1Below [v2, AV.int .i64 2]) fun v10 => .op (.bin 0 .add (AV.int .i64 3) v10) fun v11 => .leaf 0 [v11]) (.leaf 0 [v6])) (fun vs12 => .op (.call n_spec_l1Once [v2, AV.int .i64 6]) fun v14 => .scope (.ite v14 (.op (.call n_spec_l1Below [v2, AV.int .i64 7]) fun v15 => .op (.bin 0 .sub v15 (AV.int .i64 1)) fun v16 => .leaf 0 [v16]) (.leaf 0 [g vs12 0])) (fun vs17 => .op (.ldn 12 v4) fun v19 => .op (.st 12 v1 v19) fun v20 => .fin [.cn 12 v1, .val (g vs17 0)]) fun t18 vs17 => tsel t18 1 (.leaf 1 vs17) .bad) fun t13 vs12 => tsel t13 1 (.leaf 1 vs12) .bad
theorem c_spec_DrawTaskOk (x0 : AV) : CC Try.prog n_spec_DrawTaskOk [x0] (p_spec_DrawTaskOk x0) := cc Try.func65 [2, 4, 5, 6] (fun _ => []) (by kernel_rfl)
/- spec.DrawHoldsStripe -/
def p_spec_DrawHoldsStripe (x0 : AV) : Prog := .op (.alloc z12_f83) fun v1 => .op (.call n_spec_l1New [x0]) fun v2 => .op (.call n_spec_l14Any [v2]) fun v3 => .op (.call n_spec_l1Below [v2, AV.int .i64 5]) fun v4 => .op (.bin 0 .sub v4 (AV.int .i64 1)) fun v5 => .op (.st 12 v1 v3) fun v6 => .fin [.cn 12 v1, .val v5]
theorem c_spec_DrawHoldsStripe (x0 : AV) : CC Try.prog n_spec_DrawHoldsStripe [x0] (p_spec_DrawHoldsStripe x0) := cc Try.func66 [] (fun _ => []) (by kernel_rfl)
/- laws.sameSpans -/
def p_laws_sameSpans (x0 x1 : AV) : Prog := .op (.len 0 x0) fun v1 => .op (.len 0 x1) fun v2 => .op (.bin 0 .neq v1 v2) fun v3 => .ite v3 (.fin [.val (AV.bool false)]) (.loop [AV.int .i64 0] (fun vs4 => .op (.len 0 x0) fun v6 => .op (.bin 0 .lss (g vs4 0) v6) fun v7 => .ite v7 (.op (.idx 6 x0 (g vs4 0)) fun v8 => .op (.ldn 6 v8) fun v9 => .op (.idx 6 x1 (g vs4 0)) fun v10 => .op (.ldn 6 v10) fun v11 => .op (.call n_impl_SameSpan [v9, v11]) fun v12 => .op (.una .not v12) fun v13 => .ite v13 (.fin [.val (AV.bool false)]) (.op (.bin 0 .add (g vs4 0) (AV.int .i64 1)) fun v14 => .leaf 0 [v14])) (.leaf 2 [g vs4 0])) fun t5 vs4 => tsel t5 1 (.leaf 1 vs4) (tsel t5 2 (.fin [.val (AV.bool true)]) .bad))
theorem c_laws_sameSpans (x0 x1 : AV) : CC Try.prog n_laws_sameSpans [x0, x1] (p_laws_sameSpans x0 x1) := cc Try.func81 [0, 1, 5] (fun r => if r = 6 then [(0, []), (1, []), (2, []), (3, []), (4, []), (5, []), (6, []), (7, []), (8, []), (9, [])] else []) (by kernel_rfl)
end
/-- A task and a number, drawn from bytes. -/
def DwK (h : AH) : AV → AH → Prop := fun u h' => ∃ (t : Task) (va vb : AV) (G Gm : List Nat) (n : Int), u = .tup [.agg (t.cs va vb), .int .i64 n] ∧ SlRep h' va t.s.attrs G ∧ SlRep h' vb t.hand Gm ∧ Ext h h' ∧ tA t ∧ -1 ≤ n ∧ n < 10
theorem s_spec_DrawHoldsStripe {h : AH} {l : List UInt8} {v : AV} {F : List Nat} (hs : l.length ≤ 1048576) (r : SlRep h v l F) : ACalls Try.prog n_spec_DrawHoldsStripe [v] h (DwK h) := by
  refine c_spec_DrawHoldsStripe _ ?_
  unfold p_spec_DrawHoldsStripe
  (repeat' first|refine vs ?_|(refine br ?_ ?_<;>intro _<;>try(exfalso;first|omega|contradiction))|((with_reducible refine g_callf n_spec_l1New ?_);(refine aw_call (s_spec_l1New hs slr_auto) ?_; rintro _ h1 ⟨c, rfl, e1, lc, cu1⟩; have n1 := e1.1; (try simp only [push_n, upd_n] at n1); (try simp only [push_n, upd_n] at lc); have lc2 := cu1.lt))|((with_reducible refine g_callf n_spec_l1Below ?_);(refine aw_call (s_spec_l1Below cur_auto (by omega) (by omega)) ?_; rintro _ h2 ⟨x, rfl, hx0, hx1, k2, cu2⟩; have n2 := k2.1; (try simp only [push_n, upd_n] at n2)))|((with_reducible refine g_callf n_spec_l14Any ?_);(refine aw_call (s_spec_l14Any cur_auto) ?_; rintro _ h2 ⟨t, va, vb, G, Gm, rfl, ra, rb, oa, ob, k2, cu2, ht⟩; have n2 := k2.1; (try simp only [push_n, upd_n] at n2)))|((with_reducible refine g_idx ?_);((first|refine ix ?_|refine ixi ?_|(refine ixg ?_;intro _ _)|(refine ixgi ?_;intro _ _));first|rintro _ _ _ _ _ ⟨rfl,rfl⟩ _|rintro _ _ _ _ _ ⟨_,rfl,_⟩ _|rintro _ _ _ _ _ ⟨_,_,_,_,rfl,rfl,_,_⟩ _|intro _ _ _ _ _ _ _))|(refine sx ?_;intro _ _)|((with_reducible refine g_awp ?_);simp only [g0,g1,g2]))
  exact ⟨rfl, _, rfl, t, va, vb, _, _, _, rfl, slr_auto, slr_auto, exc_auto, ht, by omega, by omega⟩
theorem s_spec_DrawTaskOk {h : AH} {l : List UInt8} {v : AV} {F : List Nat} (hs : l.length ≤ 1048576) (r : SlRep h v l F) : ACalls Try.prog n_spec_DrawTaskOk [v] h (DwK h) := by
  refine c_spec_DrawTaskOk _ ?_
  unfold p_spec_DrawTaskOk
  (repeat' first|refine vs ?_|(refine br ?_ ?_<;>intro _<;>try(exfalso;first|omega|contradiction))|((with_reducible refine g_callf n_spec_l1New ?_);(refine aw_call (s_spec_l1New hs slr_auto) ?_; rintro _ h1 ⟨c, rfl, e1, lc, cu1⟩; have n1 := e1.1; (try simp only [push_n, upd_n] at n1); (try simp only [push_n, upd_n] at lc); have lc2 := cu1.lt))|((with_reducible refine g_callf n_spec_l1Below ?_);(refine aw_call (s_spec_l1Below cur_auto (by omega) (by omega)) ?_; rintro _ h2 ⟨x, rfl, hx0, hx1, k2, cu2⟩; have n2 := k2.1; (try simp only [push_n, upd_n] at n2)))|((with_reducible refine g_callf n_spec_l1Once ?_);(refine aw_call (s_spec_l1Once cur_auto (by omega) (by omega)) ?_; rintro _ h2 ⟨b, rfl, k2, cu2⟩; have n2 := k2.1; (try simp only [push_n, upd_n] at n2); cases b))|((with_reducible refine g_callf n_spec_l14Any ?_);(refine aw_call (s_spec_l14Any cur_auto) ?_; rintro _ h2 ⟨t, va, vb, G, Gm, rfl, ra, rb, oa, ob, k2, cu2, ht⟩; have n2 := k2.1; (try simp only [push_n, upd_n] at n2)))|((with_reducible refine g_idx ?_);((first|refine ix ?_|refine ixi ?_|(refine ixg ?_;intro _ _)|(refine ixgi ?_;intro _ _));first|rintro _ _ _ _ _ ⟨rfl,rfl⟩ _|rintro _ _ _ _ _ ⟨_,rfl,_⟩ _|rintro _ _ _ _ _ ⟨_,_,_,_,rfl,rfl,_,_⟩ _|intro _ _ _ _ _ _ _))|(refine sx ?_;intro _ _)|((with_reducible refine g_awp ?_);simp only [g0,g1,g2]))
  all_goals exact ⟨rfl, _, rfl, t, va, vb, _, _, _, rfl, slr_auto, slr_auto, exc_auto, ht, by omega, by omega⟩
theorem s_laws_sameSpans : EqS Span Try.prog n_laws_sameSpans := by
  intro xs v v' F F' h r r'
  have hsm := r.small
  refine reader (c_laws_sameSpans _ _) (by simp only [old]) ?_
  unfold p_laws_sameSpans
  (repeat' first|refine vs ?_|(refine br ?_ ?_<;>intro _<;>try(exfalso;first|omega|contradiction))|((with_reducible refine g_idx ?_);((first|refine ix ?_|refine ixi ?_|(refine ixg ?_;intro _ _)|(refine ixgi ?_;intro _ _));first|rintro _ _ _ _ _ ⟨rfl,rfl⟩ _|rintro _ _ _ _ _ ⟨_,rfl,_⟩ _|rintro _ _ _ _ _ ⟨_,_,_,_,rfl,rfl,_,_⟩ _|intro _ _ _ _ _ _ _))|(refine sx ?_;intro _ _)|((with_reducible refine g_awp ?_);simp only [g0,g1,g2]))
  refine aw_upto xs.length (fun i vs h1 => vs = [.int .i64 (i : Int)] ∧ i ≤ xs.length ∧ h1 = h) ⟨rfl, Nat.zero_le _, rfl⟩ ?_
  rintro i vs h1 _ ⟨rfl, hi, rfl⟩
  simp only [g0]
  refine aw_len r ?_
  refine br (fun hlt => ?_) (fun hge => ?_)
  · obtain ⟨x, hx, -, -⟩ := drop_step (show i < xs.length by omega)
    refine vs ?_
    refine aw_idx r hx rfl ?_
    rintro b o _ Fi a ⟨w, rfl, rw1⟩ _
    refine vs ?_
    refine aw_idx r' hx rfl ?_
    rintro b2 o2 _ Fi2 a2 ⟨w2, rfl, rw2⟩ _
    have cs : ∀ {h : AH}, SlRep h w x.attrs Fi → SlRep h w2 x.attrs Fi2 → RCalls Try.prog n_impl_SameSpan [.agg (x.cs w), .agg (x.cs w2)] h (.bool true) := fun p q => by
      have := s_impl_SameSpan p q; rw [bp_t rfl] at this; exact this
    refine vs ?_
    refine aw_rcall (cs rw1 rw2) ?_
    (repeat' first|refine vs ?_|(refine br ?_ ?_<;>intro _<;>try(exfalso;first|omega|contradiction))|((with_reducible refine g_idx ?_);((first|refine ix ?_|refine ixi ?_|(refine ixg ?_;intro _ _)|(refine ixgi ?_;intro _ _));first|rintro _ _ _ _ _ ⟨rfl,rfl⟩ _|rintro _ _ _ _ _ ⟨_,rfl,_⟩ _|rintro _ _ _ _ _ ⟨_,_,_,_,rfl,rfl,_,_⟩ _|intro _ _ _ _ _ _ _))|(refine sx ?_;intro _ _)|((with_reducible refine g_awp ?_);simp only [g0,g1,g2]))
    exact ⟨by omega, rfl, by omega, rfl⟩
  · (repeat' first|refine vs ?_|(refine br ?_ ?_<;>intro _<;>try(exfalso;first|omega|contradiction))|((with_reducible refine g_idx ?_);((first|refine ix ?_|refine ixi ?_|(refine ixg ?_;intro _ _)|(refine ixgi ?_;intro _ _));first|rintro _ _ _ _ _ ⟨rfl,rfl⟩ _|rintro _ _ _ _ _ ⟨_,rfl,_⟩ _|rintro _ _ _ _ _ ⟨_,_,_,_,rfl,rfl,_,_⟩ _|intro _ _ _ _ _ _ _))|(refine sx ?_;intro _ _)|((with_reducible refine g_awp ?_);simp only [g0,g1,g2]))
    exact pb rfl
end Go.Proofs.Ytpcgbddmdipfbaa
