
/- What is remembered, drawn. -/
import Derived.Test.YtpcgbddmdipfbaaW47
import Derived.Test.YtpcgbddmdipfbaaW46
set_option linter.unusedSimpArgs false
set_option linter.unusedVariables false
set_option maxHeartbeats 2000000
namespace Go.Proofs.Ytpcgbddmdipfbaa
open Go Go.Ab
section
/- spec.l12Draw -/
def p_spec_l12Draw (x0 : AV) : Prog := .op (.bslice 3 0 [] []) fun v1 => .op (.call n_spec_l1Below [x0, AV.int .i64 6]) fun v2 => .loop [v1, v2] (fun vs3 => .op (.bin 0 .gtr (g vs3 1) (AV.int .i64 0)) fun v5 => .ite v5 (.op (.call n_spec_l1Below [x0, AV.int .i64 7]) fun v6 => .op (.bin 0 .add (AV.int .i64 1) v6) fun v7 => .op (.call n_spec_l1Below [x0, AV.int .i64 9]) fun v8 => .op (.bin 0 .add (AV.int .i64 1) v8) fun v9 => .op (.call n_spec_l1Once [x0, AV.int .i64 2]) fun v10 => .op (.build [AV.int .i64 0, AV.int .i64 0, AV.bool false] [(0, 1, v7), (1, 1, v9), (2, 1, v10)]) fun v11 => .op (.call n_spec_Remember [g vs3 0, v11, AV.int .i64 6]) fun v12 => .op (.ext v12 0) fun v13 => .op (.ext v12 1) fun v14 => .op (.bin 0 .sub (g vs3 1) (AV.int .i64 1)) fun v15 => .leaf 0 [v13, v15]) (.leaf 2 [g vs3 0, g vs3 1])) fun t4 vs3 => tsel t4 1 (.leaf 1 vs3) (tsel t4 2 (.fin [.val (g vs3 0)]) .bad)
theorem c_spec_l12Draw (x0 : AV) : CC Try.prog n_spec_l12Draw [x0] (p_spec_l12Draw x0) := cc Try.func197 [0, 3, 4] (fun _ => []) (by kernel_rfl)
/- spec.l12Any -/
def p_spec_l12Any (x0 : AV) : Prog := .op (.call n_spec_l12Draw [x0]) fun v1 => .op (.call n_spec_l1Once [x0, AV.int .i64 4]) fun v2 => .scope (.ite v2 (.op (.bslice 1 4 [AV.int .i64 0, AV.int .i64 0, AV.int .i64 0, AV.int .i64 0] [(0, 1, AV.int .i64 0), (1, 1, AV.int .i64 1), (2, 1, AV.int .i64 2), (3, 1, AV.int .i64 1000)]) fun v3 => .op (.call n_spec_l1Int [x0, v3]) fun v4 => .op (.bslice 1 2 [AV.int .i64 0, AV.int .i64 0] [(0, 1, AV.int .i64 0), (1, 1, AV.int .i64 1)]) fun v5 => .op (.call n_spec_l1Int [x0, v5]) fun v6 => .op (.build [AV.int .i64 0, AV.int .i64 0, AV.bool false] [(0, 1, v4), (1, 1, v6)]) fun v7 => .op (.bslice 3 1 [AV.int .i64 0, AV.int .i64 0, AV.bool false] [(0, 3, v7)]) fun v8 => .op (.app 3 24 v1 v8) fun v9 => .leaf 0 [v9]) (.leaf 0 [v1])) (fun vs10 => .fin [.val (g vs10 0)]) fun t11 vs10 => tsel t11 1 (.leaf 1 vs10) .bad
theorem c_spec_l12Any (x0 : AV) : CC Try.prog n_spec_l12Any [x0] (p_spec_l12Any x0) := cc Try.func146 [3] (fun _ => []) (by kernel_rfl)
/- spec.DrawRemember -/
def p_spec_DrawRemember (x0 : AV) : Prog := .op (.alloc [AV.int .i64 0, AV.int .i64 0, AV.bool false]) fun v1 => .op (.call n_spec_l1New [x0]) fun v2 => .op (.call n_spec_l12Any [v2]) fun v3 => .op (.call n_spec_l1Below [v2, AV.int .i64 7]) fun v4 => .op (.bin 0 .add (AV.int .i64 1) v4) fun v5 => .op (.call n_spec_l1Below [v2, AV.int .i64 9]) fun v6 => .op (.bin 0 .add (AV.int .i64 1) v6) fun v7 => .op (.call n_spec_l1Once [v2, AV.int .i64 2]) fun v8 => .op (.build [AV.int .i64 0, AV.int .i64 0, AV.bool false] [(0, 1, v5), (1, 1, v7), (2, 1, v8)]) fun v9 => .op (.call n_spec_l1Below [v2, AV.int .i64 8]) fun v10 => .op (.bin 0 .sub v10 (AV.int .i64 1)) fun v11 => .op (.st 3 v1 v9) fun v12 => .fin [.val v3, .cn 3 v1, .val v11]
theorem c_spec_DrawRemember (x0 : AV) : CC Try.prog n_spec_DrawRemember [x0] (p_spec_DrawRemember x0) := cc Try.func38 [] (fun _ => []) (by kernel_rfl)
/- spec.DrawCacheOk -/
def p_spec_DrawCacheOk (x0 : AV) : Prog := .op (.call n_spec_l1New [x0]) fun v1 => .op (.call n_spec_l12Any [v1]) fun v2 => .op (.call n_spec_l1Below [v1, AV.int .i64 8]) fun v3 => .fin [.val v2, .val v3]
theorem c_spec_DrawCacheOk (x0 : AV) : CC Try.prog n_spec_DrawCacheOk [x0] (p_spec_DrawCacheOk x0) := cc Try.func41 [] (fun _ => []) (by kernel_rfl)
/- spec.DrawVerdictOf -/
def p_spec_DrawVerdictOf (x0 : AV) : Prog := .op (.call n_spec_l1New [x0]) fun v1 => .op (.call n_spec_l12Any [v1]) fun v2 => .op (.call n_spec_l1Below [v1, AV.int .i64 9]) fun v3 => .fin [.val v2, .val v3]
theorem c_spec_DrawVerdictOf (x0 : AV) : CC Try.prog n_spec_DrawVerdictOf [x0] (p_spec_DrawVerdictOf x0) := cc Try.func42 [] (fun _ => []) (by kernel_rfl)
/- spec.DrawForgets -/
def p_spec_DrawForgets (x0 : AV) : Prog := .op (.call n_spec_l1New [x0]) fun v1 => .op (.call n_spec_l12Any [v1]) fun v2 => .op (.call n_spec_l12Any [v1]) fun v3 => .fin [.val v2, .val v3]
theorem c_spec_DrawForgets (x0 : AV) : CC Try.prog n_spec_DrawForgets [x0] (p_spec_DrawForgets x0) := cc Try.func45 [] (fun _ => []) (by kernel_rfl)
end
theorem rem_length (xs : List Verdict) (v : Verdict) (m : Int) : (rem xs v m).1.length ≤ xs.length + 1 := by
  have hfl : (xs.filter fun x => !isT v.trace x).length ≤ xs.length := List.length_filter_le _ _
  unfold rem
  split
  · simp
  · simp only [List.length_drop, keepers, List.length_append, List.length_singleton]; omega
theorem s_spec_l12Draw {h : AH} {c : Nat} (cu : Cur h c) : ACalls Try.prog n_spec_l12Draw [.ptr c 0] h (DrS Verdict h c fun l => l.length ≤ 10) := by
  have lc := cu.lt
  refine c_spec_l12Draw _ ?_
  unfold p_spec_l12Draw
  obtain ⟨re, oe⟩ := empty_own (h := h) (α := Verdict) (w := 3) rfl
  refine vs ?_
  refine aw_call (s_spec_l1Below cur_auto (by omega) (by omega)) ?_
  rintro _ h2 ⟨x, rfl, hx0, hx1, k2, cu2⟩
  have n2 := k2.1
  simp only [push_n] at n2
  have re2 := slr_kp1 k2 re (dis_one (nin_one (by omega)))
  have oe2 : Own h.n h2 [h.n] := (ol_kp1 k2 (ol_mk (oe h.n (by omega)) re (Nat.le_refl _)) (dis_one (nin_one (by omega)))).1
  obtain ⟨x, rfl⟩ : ∃ j : Nat, x = (j : Int) := ⟨x.toNat, by omega⟩
  have k12 : Kp h h2 [c] := kp_auto
  clear re oe k2
  refine aw_loop (fun n vs h3 => ∃ u xs G, vs = [u, .int .i64 (n : Int)] ∧ xs.length + n ≤ 9 ∧ Kp h h3 [c] ∧ Cur h3 c ∧ SlRep h3 u xs G ∧ Own h.n h3 G) x ⟨_, [], _, rfl, by simp only [List.length_nil]; omega, k12, cu2, re2, oe2⟩ ?_
  clear re2 oe2 k12 cu2 n2
  rintro n vs h3 ⟨u, xs, G, rfl, hn, k3, cu3, ru, ou⟩
  have n3 := k3.1
  have lc3 := cu3.lt
  simp only [g0, g1]
  refine br (fun q => ?_) (fun q => ?_)
  · (repeat' first|refine vs ?_|(refine br ?_ ?_<;>intro _<;>try(exfalso;first|omega|contradiction))|((with_reducible refine g_callf n_spec_l1Below ?_);(refine aw_call (s_spec_l1Below cur_auto (by omega) (by omega)) ?_; rintro _ h2 ⟨x, rfl, hx0, hx1, k2, cu2⟩; have n2 := k2.1; (try simp only [push_n, upd_n] at n2)))|((with_reducible refine g_callf n_spec_l1Once ?_);(refine aw_call (s_spec_l1Once cur_auto (by omega) (by omega)) ?_; rintro _ h2 ⟨b, rfl, k2, cu2⟩; have n2 := k2.1; (try simp only [push_n, upd_n] at n2)))|((with_reducible refine g_idx ?_);((first|refine ix ?_|refine ixi ?_|(refine ixg ?_;intro _ _)|(refine ixgi ?_;intro _ _));first|rintro _ _ _ _ _ ⟨rfl,rfl⟩ _|rintro _ _ _ _ _ ⟨_,rfl,_⟩ _|rintro _ _ _ _ _ ⟨_,_,_,_,rfl,rfl,_,_⟩ _|intro _ _ _ _ _ _ _))|(refine sx ?_;intro _ _)|((with_reducible refine g_awp ?_);simp only [g0,g1,g2]))
    rename_i y0 _ _ _ _ _ _ _ _ _
    refine aw_call (s_spec_Remember (v := ⟨1 + y0, 1 + x, b⟩) (m := 6) slr_auto (by omega)) ?_
    rintro _ h6 ⟨e6, w, F6, rfl, r6, o6⟩
    have n6 := e6.1
    refine vs ?_
    have en : ((n : Int) - 1) = ((n - 1 : Nat) : Int) := by omega
    rw [en]
    exact ⟨n - 1, by omega, _, _, _, rfl, by have := rem_length xs ⟨1 + y0, 1 + x, b⟩ 6; omega, kp_auto, cur_auto, r6, o6.mono (by omega) fun _ _ => rfl⟩
  · refine vs ?_
    exact ⟨rfl, _, rfl, _, _, ru, ou, k3, cu3, by omega⟩
theorem s_spec_l12Any {h : AH} {c : Nat} (cu : Cur h c) : ACalls Try.prog n_spec_l12Any [.ptr c 0] h (DrS Verdict h c fun l => l.length ≤ 20) := by
  have lc := cu.lt
  refine c_spec_l12Any _ ?_
  unfold p_spec_l12Any
  refine aw_call (s_spec_l12Draw cu) ?_
  rintro u h1 ⟨xs, G, ru, ou, k1, cu1, hl⟩
  have n1 := k1.1
  (repeat' first|refine vs ?_|(refine br ?_ ?_<;>intro _<;>try(exfalso;first|omega|contradiction))|((with_reducible refine g_callf n_spec_l1Once ?_);(refine aw_call (s_spec_l1Once cur_auto (by omega) (by omega)) ?_; rintro _ h2 ⟨b, rfl, k2, cu2⟩; have n2 := k2.1; (try simp only [push_n, upd_n] at n2); cases b))|((with_reducible refine g_callf n_spec_l1Int ?_);(refine aw_call (s_spec_l1Int cur_auto bk_auto om_auto (by rfl) (by decide) (by decide) iv_auto) ?_; rintro _ h2 ⟨x, rfl, hx0, hx1, k2, cu2⟩; have n2 := k2.1; (try simp only [push_n, upd_n] at n2)))|((with_reducible refine g_idx ?_);((first|refine ix ?_|refine ixi ?_|(refine ixg ?_;intro _ _)|(refine ixgi ?_;intro _ _));first|rintro _ _ _ _ _ ⟨rfl,rfl⟩ _|rintro _ _ _ _ _ ⟨_,rfl,_⟩ _|rintro _ _ _ _ _ ⟨_,_,_,_,rfl,rfl,_,_⟩ _|intro _ _ _ _ _ _ _))|(refine sx ?_;intro _ _)|((with_reducible refine g_awp ?_);simp only [g0,g1,g2]))
  · exact ⟨rfl, _, rfl, _, _, slr_auto, ol_auto, kp_auto, cur_auto, by omega⟩
  · rename_i y0 _ _ _ _ _
    refine app1F (n := h.n) (xs := xs) (a := ⟨y0, x, false⟩) (cs := [.int .i64 y0, .int .i64 x, .bool false]) (G := []) (Fx := G) slr_auto ⟨rfl, rfl⟩ (by rw [List.append_nil]; exact ol_auto) (by omega) rfl (by omega) (by omega) ?_
    intro u' h5 F' _ k5 r5 o5 w5
    refine vs ?_
    exact ⟨rfl, _, rfl, _, _, r5, o5, kp_stepN k5 kp_auto fun b hb => (ou.2 b hb).1, cur_kp1 k5 cur_auto fun b hb => by have := (ou.2 b hb).1; omega, by simp only [List.length_append, List.length_singleton]; omega⟩
/-- A list, and a number, drawn. -/
def DwP (h : AH) (lo hi : Int) : AV → AH → Prop := fun u h' => ∃ w xs F n, u = .tup [w, .int .i64 n] ∧ SlRep (α := Verdict) h' w xs F ∧ Own h.n h' F ∧ Ext h h' ∧ xs.length ≤ 20 ∧ lo ≤ n ∧ n < hi
theorem s_spec_DrawCacheOk {h : AH} {l : List UInt8} {v : AV} {F : List Nat} (hs : l.length ≤ 1048576) (r : SlRep h v l F) : ACalls Try.prog n_spec_DrawCacheOk [v] h (DwP h 0 8) := by
  refine c_spec_DrawCacheOk _ ?_
  unfold p_spec_DrawCacheOk
  (repeat' first|refine vs ?_|(refine br ?_ ?_<;>intro _<;>try(exfalso;first|omega|contradiction))|((with_reducible refine g_callf n_spec_l1New ?_);(refine aw_call (s_spec_l1New hs slr_auto) ?_; rintro _ h1 ⟨c, rfl, e1, lc, cu1⟩; have n1 := e1.1; (try simp only [push_n, upd_n] at n1); (try simp only [push_n, upd_n] at lc); have lc2 := cu1.lt))|((with_reducible refine g_callf n_spec_l12Any ?_);(refine aw_call (s_spec_l12Any cur_auto) ?_; rintro u h2 ⟨xs, G, ru, ou, k2, cu2, hl⟩; have n2 := k2.1; (try simp only [push_n, upd_n] at n2)))|((with_reducible refine g_callf n_spec_l1Below ?_);(refine aw_call (s_spec_l1Below cur_auto (by omega) (by omega)) ?_; rintro _ h2 ⟨x, rfl, hx0, hx1, k2, cu2⟩; have n2 := k2.1; (try simp only [push_n, upd_n] at n2)))|((with_reducible refine g_idx ?_);((first|refine ix ?_|refine ixi ?_|(refine ixg ?_;intro _ _)|(refine ixgi ?_;intro _ _));first|rintro _ _ _ _ _ ⟨rfl,rfl⟩ _|rintro _ _ _ _ _ ⟨_,rfl,_⟩ _|rintro _ _ _ _ _ ⟨_,_,_,_,rfl,rfl,_,_⟩ _|intro _ _ _ _ _ _ _))|(refine sx ?_;intro _ _)|((with_reducible refine g_awp ?_);simp only [g0,g1,g2]))
  exact ⟨rfl, _, rfl, _, _, _, _, rfl, slr_auto, ol_auto, exc_auto, hl, hx0, hx1⟩
theorem s_spec_DrawVerdictOf {h : AH} {l : List UInt8} {v : AV} {F : List Nat} (hs : l.length ≤ 1048576) (r : SlRep h v l F) : ACalls Try.prog n_spec_DrawVerdictOf [v] h (DwP h 0 9) := by
  refine c_spec_DrawVerdictOf _ ?_
  unfold p_spec_DrawVerdictOf
  (repeat' first|refine vs ?_|(refine br ?_ ?_<;>intro _<;>try(exfalso;first|omega|contradiction))|((with_reducible refine g_callf n_spec_l1New ?_);(refine aw_call (s_spec_l1New hs slr_auto) ?_; rintro _ h1 ⟨c, rfl, e1, lc, cu1⟩; have n1 := e1.1; (try simp only [push_n, upd_n] at n1); (try simp only [push_n, upd_n] at lc); have lc2 := cu1.lt))|((with_reducible refine g_callf n_spec_l12Any ?_);(refine aw_call (s_spec_l12Any cur_auto) ?_; rintro u h2 ⟨xs, G, ru, ou, k2, cu2, hl⟩; have n2 := k2.1; (try simp only [push_n, upd_n] at n2)))|((with_reducible refine g_callf n_spec_l1Below ?_);(refine aw_call (s_spec_l1Below cur_auto (by omega) (by omega)) ?_; rintro _ h2 ⟨x, rfl, hx0, hx1, k2, cu2⟩; have n2 := k2.1; (try simp only [push_n, upd_n] at n2)))|((with_reducible refine g_idx ?_);((first|refine ix ?_|refine ixi ?_|(refine ixg ?_;intro _ _)|(refine ixgi ?_;intro _ _));first|rintro _ _ _ _ _ ⟨rfl,rfl⟩ _|rintro _ _ _ _ _ ⟨_,rfl,_⟩ _|rintro _ _ _ _ _ ⟨_,_,_,_,rfl,rfl,_,_⟩ _|intro _ _ _ _ _ _ _))|(refine sx ?_;intro _ _)|((with_reducible refine g_awp ?_);simp only [g0,g1,g2]))
  exact ⟨rfl, _, rfl, _, _, _, _, rfl, slr_auto, ol_auto, exc_auto, hl, hx0, hx1⟩
theorem s_spec_DrawForgets {h : AH} {l : List UInt8} {v : AV} {F : List Nat} (hs : l.length ≤ 1048576) (r : SlRep h v l F) : ACalls Try.prog n_spec_DrawForgets [v] h (fun u h' => ∃ w xs F w' ys F', u = .tup [w, w'] ∧ SlRep (α := Verdict) h' w xs F ∧ SlRep (α := Verdict) h' w' ys F' ∧ Ext h h' ∧ xs.length ≤ 20 ∧ ys.length ≤ 20) := by
  refine c_spec_DrawForgets _ ?_
  unfold p_spec_DrawForgets
  (repeat' first|refine vs ?_|(refine br ?_ ?_<;>intro _<;>try(exfalso;first|omega|contradiction))|((with_reducible refine g_callf n_spec_l1New ?_);(refine aw_call (s_spec_l1New hs slr_auto) ?_; rintro _ h1 ⟨c, rfl, e1, lc, cu1⟩; have n1 := e1.1; (try simp only [push_n, upd_n] at n1); (try simp only [push_n, upd_n] at lc); have lc2 := cu1.lt))|((with_reducible refine g_callf n_spec_l12Any ?_);(refine aw_call (s_spec_l12Any cur_auto) ?_; rintro u h2 ⟨xs, G, ru, ou, k2, cu2, hl⟩; have n2 := k2.1; (try simp only [push_n, upd_n] at n2)))|((with_reducible refine g_idx ?_);((first|refine ix ?_|refine ixi ?_|(refine ixg ?_;intro _ _)|(refine ixgi ?_;intro _ _));first|rintro _ _ _ _ _ ⟨rfl,rfl⟩ _|rintro _ _ _ _ _ ⟨_,rfl,_⟩ _|rintro _ _ _ _ _ ⟨_,_,_,_,rfl,rfl,_,_⟩ _|intro _ _ _ _ _ _ _))|(refine sx ?_;intro _ _)|((with_reducible refine g_awp ?_);simp only [g0,g1,g2]))
  rename_i hl0 _
  exact ⟨rfl, _, rfl, _, _, _, _, _, _, rfl, slr_auto, slr_auto, exc_auto, hl0, hl⟩
theorem s_spec_DrawRemember {h : AH} {l : List UInt8} {v : AV} {F : List Nat} (hs : l.length ≤ 1048576) (r : SlRep h v l F) : ACalls Try.prog n_spec_DrawRemember [v] h (fun u h' => ∃ w xs F a b c n, u = .tup [w, .agg [.int .i64 a, .int .i64 b, .bool c], .int .i64 n] ∧ SlRep (α := Verdict) h' w xs F ∧ Ext h h' ∧ xs.length ≤ 20 ∧ -1 ≤ n ∧ n < 8) := by
  refine c_spec_DrawRemember _ ?_
  unfold p_spec_DrawRemember
  (repeat' first|refine vs ?_|(refine br ?_ ?_<;>intro _<;>try(exfalso;first|omega|contradiction))|((with_reducible refine g_callf n_spec_l1New ?_);(refine aw_call (s_spec_l1New hs slr_auto) ?_; rintro _ h1 ⟨c, rfl, e1, lc, cu1⟩; have n1 := e1.1; (try simp only [push_n, upd_n] at n1); (try simp only [push_n, upd_n] at lc); have lc2 := cu1.lt))|((with_reducible refine g_callf n_spec_l12Any ?_);(refine aw_call (s_spec_l12Any cur_auto) ?_; rintro u h2 ⟨xs, G, ru, ou, k2, cu2, hl⟩; have n2 := k2.1; (try simp only [push_n, upd_n] at n2)))|((with_reducible refine g_callf n_spec_l1Below ?_);(refine aw_call (s_spec_l1Below cur_auto (by omega) (by omega)) ?_; rintro _ h2 ⟨x, rfl, hx0, hx1, k2, cu2⟩; have n2 := k2.1; (try simp only [push_n, upd_n] at n2)))|((with_reducible refine g_callf n_spec_l1Once ?_);(refine aw_call (s_spec_l1Once cur_auto (by omega) (by omega)) ?_; rintro _ h2 ⟨b, rfl, k2, cu2⟩; have n2 := k2.1; (try simp only [push_n, upd_n] at n2)))|((with_reducible refine g_idx ?_);((first|refine ix ?_|refine ixi ?_|(refine ixg ?_;intro _ _)|(refine ixgi ?_;intro _ _));first|rintro _ _ _ _ _ ⟨rfl,rfl⟩ _|rintro _ _ _ _ _ ⟨_,rfl,_⟩ _|rintro _ _ _ _ _ ⟨_,_,_,_,rfl,rfl,_,_⟩ _|intro _ _ _ _ _ _ _))|(refine sx ?_;intro _ _)|((with_reducible refine g_awp ?_);simp only [g0,g1,g2]))
  exact ⟨rfl, _, rfl, _, _, _, _, _, _, _, rfl, slr_auto, exc_auto, hl, by omega, by omega⟩
end Go.Proofs.Ytpcgbddmdipfbaa
