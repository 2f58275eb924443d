/- Trails, drawn from bytes; trails that are the same. -/
import Derived.Test.YtpcgbddmdipfbaaW57
import Derived.Test.YtpcgbddmdipfbaaW12
set_option linter.unusedSimpArgs false
set_option linter.unusedVariables false
set_option maxHeartbeats 2000000
namespace Go.Proofs.Ytpcgbddmdipfbaa
open Go Go.Ab
section
/- spec.DrawTrailOk -/
def p_spec_DrawTrailOk (x0 : AV) : Prog := .op (.alloc [AV.int .i64 0, AV.int .i64 0, AV.int .i64 0, AV.nils]) fun v1 => .op (.call n_spec_l1New [x0]) fun v2 => .op (.call n_spec_l10Any [v2]) fun v3 => .op (.st 4 v1 v3) fun v4 => .fin [.cn 4 v1]
theorem c_spec_DrawTrailOk (x0 : AV) : CC Try.prog n_spec_DrawTrailOk [x0] (p_spec_DrawTrailOk x0) := cc Try.func84 [] (fun _ => []) (by kernel_rfl)
/- spec.DrawSameTrail -/
def p_spec_DrawSameTrail (x0 : AV) : Prog := .op (.alloc [AV.int .i64 0, AV.int .i64 0, AV.int .i64 0, AV.nils]) fun v1 => .op (.alloc [AV.int .i64 0, AV.int .i64 0, AV.int .i64 0, AV.nils]) fun v2 => .op (.call n_spec_l1New [x0]) fun v3 => .op (.call n_spec_l10Any [v3]) fun v4 => .op (.alloc [AV.int .i64 0, AV.int .i64 0, AV.int .i64 0, AV.nils]) fun v5 => .op (.st 4 v5 v4) fun v6 => .op (.call n_spec_l1Once [v3, AV.int .i64 2]) fun v7 => .ite v7 (.op (.ldn 4 v5) fun v8 => .op (.ldn 4 v5) fun v9 => .op (.call n_spec_l10Copy [v9]) fun v10 => .chk (.ldn 4 v5) v8 (.op (.st 4 v1 v8) fun v11 => .op (.st 4 v2 v10) fun v12 => .fin [.cn 4 v1, .cn 4 v2])) (.op (.ldn 4 v5) fun v13 => .op (.call n_spec_l10Any [v3]) fun v14 => .chk (.ldn 4 v5) v13 (.op (.st 4 v1 v13) fun v15 => .op (.st 4 v2 v14) fun v16 => .fin [.cn 4 v1, .cn 4 v2]))
theorem c_spec_DrawSameTrail (x0 : AV) : CC Try.prog n_spec_DrawSameTrail [x0] (p_spec_DrawSameTrail x0) := cc Try.func85 [] (fun r => if r = 4 then [(0, []), (1, []), (2, [0]), (3, []), (4, [])] else if r = 5 then [(0, []), (1, []), (2, [0]), (3, []), (4, [])] else []) (by kernel_rfl)
/- spec.DrawOlder -/
def p_spec_DrawOlder (x0 : AV) : Prog := .op (.alloc [AV.int .i64 0, AV.int .i64 0, AV.int .i64 0, AV.nils]) fun v1 => .op (.alloc [AV.int .i64 0, AV.int .i64 0, AV.int .i64 0, AV.nils]) fun v2 => .op (.call n_spec_l1New [x0]) fun v3 => .op (.call n_spec_l10Any [v3]) fun v4 => .op (.alloc [AV.int .i64 0, AV.int .i64 0, AV.int .i64 0, AV.nils]) fun v5 => .op (.st 4 v5 v4) fun v6 => .op (.ldn 4 v5) fun v7 => .op (.call n_spec_l10Any [v3]) fun v8 => .chk (.ldn 4 v5) v7 (.op (.st 4 v1 v7) fun v9 => .op (.st 4 v2 v8) fun v10 => .fin [.cn 4 v1, .cn 4 v2])
theorem c_spec_DrawOlder (x0 : AV) : CC Try.prog n_spec_DrawOlder [x0] (p_spec_DrawOlder x0) := cc Try.func86 [] (fun r => if r = 3 then [(0, []), (1, []), (2, [0]), (3, []), (4, [])] else []) (by kernel_rfl)
/- spec.DrawTrailAt -/
def p_spec_DrawTrailAt (x0 : AV) : Prog := .op (.call n_spec_l1New [x0]) fun v1 => .op (.call n_spec_l10List [v1]) fun v2 => .op (.call n_spec_l1Below [v1, AV.int .i64 8]) fun v3 => .fin [.val v2, .val v3]
theorem c_spec_DrawTrailAt (x0 : AV) : CC Try.prog n_spec_DrawTrailAt [x0] (p_spec_DrawTrailAt x0) := cc Try.func87 [] (fun _ => []) (by kernel_rfl)
/- spec.DrawAddTo -/
def p_spec_DrawAddTo (x0 : AV) : Prog := .op (.alloc z6_822) fun v1 => .op (.call n_spec_l1New [x0]) fun v2 => .op (.call n_spec_l10List [v2]) fun v3 => .op (.call n_spec_l3Draw [v2]) fun v4 => .op (.alloc z6_822) fun v5 => .op (.st 6 v5 v4) fun v6 => .op (.ldn 6 v5) fun v7 => .op (.call n_spec_l1Below [v2, AV.int .i64 9]) fun v8 => .chk (.ldn 6 v5) v7 (.op (.bin 0 .add (AV.int .i64 1) v8) fun v9 => .op (.call n_spec_l1Below [v2, AV.int .i64 9]) fun v10 => .chk (.ldn 6 v5) v7 (.chk (.ldn 6 v5) v7 (.op (.st 6 v1 v7) fun v11 => .fin [.val v3, .cn 6 v1, .val v9, .val v10])))
theorem c_spec_DrawAddTo (x0 : AV) : CC Try.prog n_spec_DrawAddTo [x0] (p_spec_DrawAddTo x0) := cc Try.func83 [] (fun r => if r = 4 then [(0, []), (1, []), (2, []), (5, []), (3, [1]), (4, []), (6, [1]), (7, [1]), (8, []), (9, []), (10, [])] else []) (by kernel_rfl)
/- laws.sameTrails -/
def p_laws_sameTrails (x0 x1 : AV) : Prog := .op (.len 0 x0) fun v1 => .op (.len 0 x1) fun v2 => .op (.bin 0 .neq v1 v2) fun v3 => .ite v3 (.fin [.val (AV.bool false)]) (.loop [AV.int .i64 0] (fun vs4 => .op (.len 0 x0) fun v6 => .op (.bin 0 .lss (g vs4 0) v6) fun v7 => .ite v7 (.op (.idx 4 x0 (g vs4 0)) fun v8 => .op (.ldn 4 v8) fun v9 => .op (.idx 4 x1 (g vs4 0)) fun v10 => .op (.ldn 4 v10) fun v11 => .op (.call n_impl_SameTrail [v9, v11]) fun v12 => .op (.una .not v12) fun v13 => .ite v13 (.fin [.val (AV.bool false)]) (.op (.bin 0 .add (g vs4 0) (AV.int .i64 1)) fun v14 => .leaf 0 [v14])) (.leaf 2 [g vs4 0])) fun t5 vs4 => tsel t5 1 (.leaf 1 vs4) (tsel t5 2 (.fin [.val (AV.bool true)]) .bad))
theorem c_laws_sameTrails (x0 x1 : AV) : CC Try.prog n_laws_sameTrails [x0, x1] (p_laws_sameTrails x0 x1) := cc Try.func88 [0, 1, 5] (fun r => if r = 6 then [(0, []), (1, []), (2, []), (3, []), (4, []), (5, []), (6, []), (7, []), (8, []), (9, [])] else []) (by kernel_rfl)
end
theorem s_spec_DrawTrailOk {h : AH} {l : List UInt8} {v : AV} {F : List Nat} (hs : l.length ≤ 1048576) (r : SlRep h v l F) : ACalls Try.prog n_spec_DrawTrailOk [v] h (DwX Trail h trA) := by
  refine c_spec_DrawTrailOk _ ?_
  unfold p_spec_DrawTrailOk
  (repeat' first|refine vs ?_|(refine br ?_ ?_<;>intro _<;>try(exfalso;first|omega|contradiction))|((with_reducible refine g_callf n_spec_l1New ?_);(refine aw_call (s_spec_l1New hs slr_auto) ?_; rintro _ h1 ⟨c, rfl, e1, lc, cu1⟩; have n1 := e1.1; (try simp only [push_n, upd_n] at n1); (try simp only [push_n, upd_n] at lc); have lc2 := cu1.lt))|((with_reducible refine g_callf n_spec_l10Any ?_);(refine aw_call (s_spec_l10Any cur_auto) ?_; rintro _ h2 ⟨d, _, G, rfl, ⟨u, rfl, ru⟩, ou, k2, cu2, hd⟩; have n2 := k2.1; (try simp only [push_n, upd_n] at n2)))|((with_reducible refine g_idx ?_);((first|refine ix ?_|refine ixi ?_|(refine ixg ?_;intro _ _)|(refine ixgi ?_;intro _ _));first|rintro _ _ _ _ _ ⟨rfl,rfl⟩ _|rintro _ _ _ _ _ ⟨_,rfl,_⟩ _|rintro _ _ _ _ _ ⟨_,_,_,_,rfl,rfl,_,_⟩ _|intro _ _ _ _ _ _ _))|(refine sx ?_;intro _ _)|((with_reducible refine g_awp ?_);simp only [g0,g1,g2]))
  exact ⟨rfl, _, rfl, d, _, _, rfl, ⟨u, rfl, slr_auto⟩, ol_auto, exc_auto, hd⟩
theorem s_spec_DrawOlder {h : AH} {l : List UInt8} {v : AV} {F : List Nat} (hs : l.length ≤ 1048576) (r : SlRep h v l F) : ACalls Try.prog n_spec_DrawOlder [v] h (Dw2 Trail h fun a b => trA a ∧ trA b) := by
  refine c_spec_DrawOlder _ ?_
  unfold p_spec_DrawOlder
  (repeat' first|refine vs ?_|(refine br ?_ ?_<;>intro _<;>try(exfalso;first|omega|contradiction))|((with_reducible refine g_callf n_spec_l1New ?_);(refine aw_call (s_spec_l1New hs slr_auto) ?_; rintro _ h1 ⟨c, rfl, e1, lc, cu1⟩; have n1 := e1.1; (try simp only [push_n, upd_n] at n1); (try simp only [push_n, upd_n] at lc); have lc2 := cu1.lt))|((with_reducible refine g_callf n_spec_l10Any ?_);(refine aw_call (s_spec_l10Any cur_auto) ?_; rintro _ h2 ⟨d, _, G, rfl, ⟨u, rfl, ru⟩, ou, k2, cu2, hd⟩; have n2 := k2.1; (try simp only [push_n, upd_n] at n2)))|((with_reducible refine g_idx ?_);((first|refine ix ?_|refine ixi ?_|(refine ixg ?_;intro _ _)|(refine ixgi ?_;intro _ _));first|rintro _ _ _ _ _ ⟨rfl,rfl⟩ _|rintro _ _ _ _ _ ⟨_,rfl,_⟩ _|rintro _ _ _ _ _ ⟨_,_,_,_,rfl,rfl,_,_⟩ _|intro _ _ _ _ _ _ _))|(refine sx ?_;intro _ _)|((with_reducible refine g_awp ?_);simp only [g0,g1,g2]))
  rename_i d0 _ _ _ _ _ _ _ _
  exact ⟨rfl, _, rfl, d0, _, _, d, _, _, rfl, ⟨_, rfl, slr_auto⟩, ol_auto, ⟨_, rfl, slr_auto⟩, ol_auto, exc_auto, by assumption, by assumption⟩
theorem s_spec_DrawSameTrail {h : AH} {l : List UInt8} {v : AV} {F : List Nat} (hs : l.length ≤ 1048576) (r : SlRep h v l F) : ACalls Try.prog n_spec_DrawSameTrail [v] h (Dw2 Trail h fun a b => trA a ∧ trA b) := by
  refine c_spec_DrawSameTrail _ ?_
  unfold p_spec_DrawSameTrail
  (repeat' first|refine vs ?_|(refine br ?_ ?_<;>intro _<;>try(exfalso;first|omega|contradiction))|((with_reducible refine g_callf n_spec_l1New ?_);(refine aw_call (s_spec_l1New hs slr_auto) ?_; rintro _ h1 ⟨c, rfl, e1, lc, cu1⟩; have n1 := e1.1; (try simp only [push_n, upd_n] at n1); (try simp only [push_n, upd_n] at lc); have lc2 := cu1.lt))|((with_reducible refine g_callf n_spec_l10Any ?_);(refine aw_call (s_spec_l10Any cur_auto) ?_; rintro _ h2 ⟨d, _, G, rfl, ⟨u, rfl, ru⟩, ou, k2, cu2, hd⟩; have n2 := k2.1; (try simp only [push_n, upd_n] at n2)))|((with_reducible refine g_callf n_spec_l1Once ?_);(refine aw_call (s_spec_l1Once cur_auto (by omega) (by omega)) ?_; rintro _ h2 ⟨b, rfl, k2, cu2⟩; have n2 := k2.1; (try simp only [push_n, upd_n] at n2); cases b))|((with_reducible refine g_callf n_spec_l10Copy ?_);(refine aw_call (s_spec_l10Copy d (by have := trA_sz hd; omega) _ _ _ ⟨_, rfl, slr_auto⟩) ?_; rintro _ h2 ⟨e2, _, G2, rfl, ⟨w2, rfl, q2⟩, o2⟩; have n2 := e2.1; (try simp only [push_n, upd_n] at n2)))|((with_reducible refine g_idx ?_);((first|refine ix ?_|refine ixi ?_|(refine ixg ?_;intro _ _)|(refine ixgi ?_;intro _ _));first|rintro _ _ _ _ _ ⟨rfl,rfl⟩ _|rintro _ _ _ _ _ ⟨_,rfl,_⟩ _|rintro _ _ _ _ _ ⟨_,_,_,_,rfl,rfl,_,_⟩ _|intro _ _ _ _ _ _ _))|(refine sx ?_;intro _ _)|((with_reducible refine g_awp ?_);simp only [g0,g1,g2]))
  · rename_i d0 _ _ _ _ _ _ _ _ _ _ _ _
    exact ⟨rfl, _, rfl, d0, _, _, d, _, _, rfl, ⟨_, rfl, slr_auto⟩, ol_auto, ⟨_, rfl, slr_auto⟩, ol_auto, exc_auto, by assumption, by assumption⟩
  · exact ⟨rfl, _, rfl, d, _, _, d, _, _, rfl, ⟨_, rfl, slr_auto⟩, ol_auto, ⟨_, rfl, slr_auto⟩, ol_auto, exc_auto, by assumption, by assumption⟩
theorem s_spec_DrawTrailAt {h : AH} {l : List UInt8} {v : AV} {F : List Nat} (hs : l.length ≤ 1048576) (r : SlRep h v l F) : ACalls Try.prog n_spec_DrawTrailAt [v] h (fun u h' => ∃ w xs F n, u = .tup [w, .int .i64 n] ∧ SlRep (α := Trail) h' w xs F ∧ Own h.n h' F ∧ Ext h h' ∧ (xs.length ≤ 6 ∧ ∀ t ∈ xs, trA t) ∧ 0 ≤ n ∧ n < 8) := by
  refine c_spec_DrawTrailAt _ ?_
  unfold p_spec_DrawTrailAt
  (repeat' first|refine vs ?_|(refine br ?_ ?_<;>intro _<;>try(exfalso;first|omega|contradiction))|((with_reducible refine g_callf n_spec_l1New ?_);(refine aw_call (s_spec_l1New hs slr_auto) ?_; rintro _ h1 ⟨c, rfl, e1, lc, cu1⟩; have n1 := e1.1; (try simp only [push_n, upd_n] at n1); (try simp only [push_n, upd_n] at lc); have lc2 := cu1.lt))|((with_reducible refine g_callf n_spec_l10List ?_);(refine aw_call (s_spec_l10List cur_auto) ?_; rintro w h2 ⟨xs, G, ru, ou, k2, cu2, hd⟩; have n2 := k2.1; (try simp only [push_n, upd_n] at n2)))|((with_reducible refine g_callf n_spec_l1Below ?_);(refine aw_call (s_spec_l1Below cur_auto (by omega) (by omega)) ?_; rintro _ h2 ⟨x, rfl, hx0, hx1, k2, cu2⟩; have n2 := k2.1; (try simp only [push_n, upd_n] at n2)))|((with_reducible refine g_idx ?_);((first|refine ix ?_|refine ixi ?_|(refine ixg ?_;intro _ _)|(refine ixgi ?_;intro _ _));first|rintro _ _ _ _ _ ⟨rfl,rfl⟩ _|rintro _ _ _ _ _ ⟨_,rfl,_⟩ _|rintro _ _ _ _ _ ⟨_,_,_,_,rfl,rfl,_,_⟩ _|intro _ _ _ _ _ _ _))|(refine sx ?_;intro _ _)|((with_reducible refine g_awp ?_);simp only [g0,g1,g2]))
  exact ⟨rfl, _, rfl, w, xs, G, x, rfl, slr_auto, ol_auto, exc_auto, hd, hx0, hx1⟩
theorem aw_fin_4 {P : Program} {h : AH} {Q : Nat → List AV → AH → Prop} {r1 r2 r3 r4 : RV} {v1 v2 v3 v4 : AV} (e1 : r1.get h = some v1) (e2 : r2.get h = some v2) (e3 : r3.get h = some v3) (e4 : r4.get h = some v4) (hk : Q 1 [.tup [v1, v2, v3, v4]] h) : (Prog.fin [r1, r2, r3, r4]).awp P h Q := by
  simp only [Prog.awp, rvals, e1, e2, e3, e4]
  exact hk
theorem s_spec_DrawAddTo {h : AH} {l : List UInt8} {v : AV} {F : List Nat} (hs : l.length ≤ 1048576) (r : SlRep h v l F) : ACalls Try.prog n_spec_DrawAddTo [v] h (fun u h' => ∃ w xs F s vS Fs a b, u = .tup [w, .agg (s.cs vS), .int .i64 a, .int .i64 b] ∧ SlRep (α := Trail) h' w xs F ∧ Own h.n h' F ∧ SlRep h' vS (Span.attrs s) Fs ∧ Own h.n h' Fs ∧ Ext h h' ∧ (xs.length ≤ 6 ∧ ∀ t ∈ xs, trA t) ∧ sA s ∧ (1 ≤ a ∧ a ≤ 9) ∧ 0 ≤ b ∧ b < 9) := by
  refine c_spec_DrawAddTo _ ?_
  unfold p_spec_DrawAddTo
  (repeat' first|refine vs ?_|(refine br ?_ ?_<;>intro _<;>try(exfalso;first|omega|contradiction))|((with_reducible refine g_callf n_spec_l1New ?_);(refine aw_call (s_spec_l1New hs slr_auto) ?_; rintro _ h1 ⟨c, rfl, e1, lc, cu1⟩; have n1 := e1.1; (try simp only [push_n, upd_n] at n1); (try simp only [push_n, upd_n] at lc); have lc2 := cu1.lt))|((with_reducible refine g_callf n_spec_l10List ?_);(refine aw_call (s_spec_l10List cur_auto) ?_; rintro w h2 ⟨xs, G, ru, ou, k2, cu2, hd⟩; have n2 := k2.1; (try simp only [push_n, upd_n] at n2)))|((with_reducible refine g_callf n_spec_l1Below ?_);(refine aw_call (s_spec_l1Below cur_auto (by omega) (by omega)) ?_; rintro _ h2 ⟨x, rfl, hx0, hx1, k2, cu2⟩; have n2 := k2.1; (try simp only [push_n, upd_n] at n2)))|((with_reducible refine g_callf n_spec_l3Draw ?_);(refine aw_call (s_spec_l3Draw cur_auto) ?_; rintro _ h2 ⟨s, _, Gs, rfl, ⟨u, rfl, rs⟩, os, k2, cu2, hsd⟩; have n2 := k2.1; (try simp only [push_n, upd_n] at n2)))|((with_reducible refine g_idx ?_);((first|refine ix ?_|refine ixi ?_|(refine ixg ?_;intro _ _)|(refine ixgi ?_;intro _ _));first|rintro _ _ _ _ _ ⟨rfl,rfl⟩ _|rintro _ _ _ _ _ ⟨_,rfl,_⟩ _|rintro _ _ _ _ _ ⟨_,_,_,_,rfl,rfl,_,_⟩ _|intro _ _ _ _ _ _ _))|(refine sx ?_;intro _ _)|((with_reducible refine g_awp ?_);simp only [g0,g1,g2]))
  refine aw_fin_4 rv_auto rv_auto rv_auto rv_auto ?_
  exact ⟨rfl, _, rfl, w, xs, G, s, u, Gs, _, _, rfl, slr_auto, ol_auto, slr_auto, ol_auto, exc_auto, hd, sD_A hsd, ⟨by omega, by omega⟩, by omega, by omega⟩
theorem s_laws_sameTrails : EqS Trail Try.prog n_laws_sameTrails := by
  intro xs v v' F F' h r r'
  have hsm := r.small
  refine reader (c_laws_sameTrails _ _) (by simp only [old]) ?_
  unfold p_laws_sameTrails
  (repeat' first|refine vs ?_|(refine br ?_ ?_<;>intro _<;>try(exfalso;first|omega|contradiction))|((with_reducible refine g_idx ?_);((first|refine ix ?_|refine ixi ?_|(refine ixg ?_;intro _ _)|(refine ixgi ?_;intro _ _));first|rintro _ _ _ _ _ ⟨rfl,rfl⟩ _|rintro _ _ _ _ _ ⟨_,rfl,_⟩ _|rintro _ _ _ _ _ ⟨_,_,_,_,rfl,rfl,_,_⟩ _|intro _ _ _ _ _ _ _))|(refine sx ?_;intro _ _)|((with_reducible refine g_awp ?_);simp only [g0,g1,g2]))
  refine aw_upto xs.length (fun i vs h1 => vs = [.int .i64 (i : Int)] ∧ i ≤ xs.length ∧ h1 = h) ⟨rfl, Nat.zero_le _, rfl⟩ ?_
  rintro i vs h1 _ ⟨rfl, hi, rfl⟩
  simp only [g0]
  refine aw_len r ?_
  refine br (fun hlt => ?_) (fun hge => ?_)
  · obtain ⟨x, hx, -, -⟩ := drop_step (show i < xs.length by omega)
    refine vs ?_
    refine aw_idx r hx rfl ?_
    rintro b o _ Fi a ⟨w, rfl, rw1⟩ _
    refine vs ?_
    refine aw_idx r' hx rfl ?_
    rintro b2 o2 _ Fi2 a2 ⟨w2, rfl, rw2⟩ _
    have cs : ∀ {h : AH}, SlRep h w x.spans Fi → SlRep h w2 x.spans Fi2 → RCalls Try.prog n_impl_SameTrail [.agg (x.cs w), .agg (x.cs w2)] h (.bool true) := fun p q => by
      have := s_impl_SameTrail p q; rw [bp_t rfl] at this; exact this
    refine vs ?_
    refine aw_rcall (cs rw1 rw2) ?_
    (repeat' first|refine vs ?_|(refine br ?_ ?_<;>intro _<;>try(exfalso;first|omega|contradiction))|((with_reducible refine g_idx ?_);((first|refine ix ?_|refine ixi ?_|(refine ixg ?_;intro _ _)|(refine ixgi ?_;intro _ _));first|rintro _ _ _ _ _ ⟨rfl,rfl⟩ _|rintro _ _ _ _ _ ⟨_,rfl,_⟩ _|rintro _ _ _ _ _ ⟨_,_,_,_,rfl,rfl,_,_⟩ _|intro _ _ _ _ _ _ _))|(refine sx ?_;intro _ _)|((with_reducible refine g_awp ?_);simp only [g0,g1,g2]))
    exact ⟨by omega, rfl, by omega, rfl⟩
  · (repeat' first|refine vs ?_|(refine br ?_ ?_<;>intro _<;>try(exfalso;first|omega|contradiction))|((with_reducible refine g_idx ?_);((first|refine ix ?_|refine ixi ?_|(refine ixg ?_;intro _ _)|(refine ixgi ?_;intro _ _));first|rintro _ _ _ _ _ ⟨rfl,rfl⟩ _|rintro _ _ _ _ _ ⟨_,rfl,_⟩ _|rintro _ _ _ _ _ ⟨_,_,_,_,rfl,rfl,_,_⟩ _|intro _ _ _ _ _ _ _))|(refine sx ?_;intro _ _)|((with_reducible refine g_awp ?_);simp only [g0,g1,g2]))
    exact pb rfl
end Go.Proofs.Ytpcgbddmdipfbaa
