
/- Worlds: how long a chain of waiting is. -/
import Derived.Test.YtideefohbkhhhaaGreatW30
set_option linter.unusedSimpArgs false
set_option linter.unusedVariables false
set_option maxHeartbeats 4000000
namespace Go.Proofs.YtideefohbkhhhaaGreat
open Go Go.Ab
section
/- impl.ChainOf -/
def p_impl_ChainOf (x0 x1 : AV) : Prog := .op (.box x0) fun v1 => .op (.ldn 32 v1) fun v2 => .op (.call n_impl_WaitsFor [v2, x1]) fun v3 => .loop [v3, AV.int .i64 0] (fun vs4 => .op (.bin 0 .geq (g vs4 0) (AV.int .i64 0)) fun v6 => .gop v6 true (.mv (g vs4 1)) fun v7 => .gop v6 true (.bin 0 .lss v7 (AV.int .i64 5)) fun v8 => .op (.pick v6 v8 (AV.bool false)) fun v9 => .ite v9 (.op (.bin 0 .add (g vs4 1) (AV.int .i64 1)) fun v10 => .op (.ldn 32 v1) fun v11 => .op (.call n_impl_WaitsFor [v11, g vs4 0]) fun v12 => .leaf 0 [v12, v10]) (.leaf 2 [g vs4 0, g vs4 1])) fun t5 vs4 => tsel t5 1 (.leaf 1 vs4) (tsel t5 2 (.fin [.val (g vs4 1)]) .bad)
theorem c_impl_ChainOf (x0 x1 : AV) : CC Tryz.prog n_impl_ChainOf [x0, x1] (p_impl_ChainOf x0 x1) := cc Tryz.func19 [1, 2, 5] (fun _ => []) (by kernel_rfl)
/- spec.ChainOf -/
def p_spec_ChainOf (x0 x1 : AV) : Prog := .op (.box x0) fun v1 => .scope (.loop [AV.int .i64 0, x1] (fun vs2 => .op (.bin 0 .lss (g vs2 0) (AV.int .i64 5)) fun v4 => .ite v4 (.op (.ldn 32 v1) fun v5 => .op (.call n_spec_WaitsFor [v5, g vs2 1]) fun v6 => .op (.bin 0 .eql v6 (AV.int .i64 (-1))) fun v7 => .ite v7 (.leaf 2 [g vs2 0, v6]) (.op (.bin 0 .add (g vs2 0) (AV.int .i64 1)) fun v8 => .leaf 0 [v8, v6])) (.leaf 2 [g vs2 0, g vs2 1])) fun t3 vs2 => tsel t3 1 (.leaf 1 vs2) (tsel t3 2 (.leaf 0 [g vs2 0, g vs2 1]) .bad)) (fun vs9 => .fin [.val (g vs9 0)]) fun t10 vs9 => tsel t10 1 (.leaf 1 vs9) .bad
theorem c_spec_ChainOf (x0 x1 : AV) : CC Tryz.prog n_spec_ChainOf [x0, x1] (p_spec_ChainOf x0 x1) := cc Tryz.func18 [2, 5, 6] (fun _ => []) (by kernel_rfl)
end
noncomputable def chainW (x : Wld) : Nat → Int → Nat
  | 0, _ => 0
  | f + 1, w => if 0 ≤ w then 1 + chainW x f (waits x w) else 0
theorem chain_y {x : Wld} {f : Nat} {w : Int} (h : 0 ≤ w) : chainW x (f + 1) w = 1 + chainW x f (waits x w) := by rw [chainW]; rw [if_pos h]
theorem chain_n {x : Wld} {f : Nat} {w : Int} (h : ¬ 0 ≤ w) : chainW x f w = 0 := by
  cases f with
  | zero => rfl
  | succ f => rw [chainW]; rw [if_neg h]
theorem s_impl_ChainOf {h : AH} {x : Wld} {cs : List AV} {F : List Nat} {k : Int} (ok : Cel.ok x) (hs : Sz.sz x ≤ 67108864) (r : Cel.rep h x cs F) :
    RCalls Tryz.prog n_impl_ChainOf [.agg cs, .int .i64 k] h (.int .i64 (chainW x 5 (waits x k) : Nat)) := by
  obtain ⟨v0, v1, v2, v3, v4, v5, v6, v7, v8, v9, v10, F0, F1, F2, F3, F4, F5, F6, F7, F8, F9, F10, rfl, rfl, r0, r1, r2, r3, r4, r5, r6, r7, r8, r9, r10⟩ := r
  refine reader (c_impl_ChainOf _ _) (by simp only [old]) ?_
  unfold p_impl_ChainOf
  (repeat' first|refine vs ?_|(refine br ?_ ?_<;>intro _<;>try(exfalso;first|omega|contradiction))|((with_reducible refine g_callf n_impl_WaitsFor ?_);refine aw_rcall (s_impl_WaitsFor (x := x) ok hs ⟨_, _, _, _, _, _, _, _, _, _, _, _, _, _, _, _, _, _, _, _, _, _, rfl, rfl, slr_auto, slr_auto, slr_auto, slr_auto, slr_auto, slr_auto, slr_auto, slr_auto, slr_auto, slr_auto, slr_auto⟩) ?_)|((with_reducible refine g_idx ?_);((first|refine ix ?_|refine ixi ?_|(refine ixg ?_;intro _ _)|(refine ixgi ?_;intro _ _));first|rintro _ _ _ _ _ ⟨rfl,rfl⟩ _|rintro _ _ _ _ _ ⟨_,rfl,_⟩ _|rintro _ _ _ _ _ ⟨_,_,_,_,rfl,rfl,_,_⟩ _|intro _ _ _ _ _ _ _))|(refine sx ?_;intro _ _)|((with_reducible refine g_awp ?_);simp only [g0,g1,g2]))
  refine aw_upto 5 (fun n vs h1 => ∃ w, vs = [.int .i64 w, .int .i64 (n : Int)] ∧ n ≤ 5 ∧ h1 = h.push ⟨(x.cs v0 v1 v2 v3 v4 v5 v6 v7 v8 v9 v10), 0, 0⟩ ∧ n + chainW x (5 - n) w = chainW x 5 (waits x k)) ⟨_, rfl, by omega, rfl, by simp⟩ ?_
  rintro n vs h1 _ ⟨w, rfl, hn, rfl, hc⟩
  simp only [g0, g1]
  (repeat' first|refine vs ?_|(refine br ?_ ?_<;>intro _<;>try(exfalso;first|omega|contradiction))|((with_reducible refine g_callf n_impl_WaitsFor ?_);refine aw_rcall (s_impl_WaitsFor (x := x) ok hs ⟨_, _, _, _, _, _, _, _, _, _, _, _, _, _, _, _, _, _, _, _, _, _, rfl, rfl, slr_auto, slr_auto, slr_auto, slr_auto, slr_auto, slr_auto, slr_auto, slr_auto, slr_auto, slr_auto, slr_auto⟩) ?_)|((with_reducible refine g_idx ?_);((first|refine ix ?_|refine ixi ?_|(refine ixg ?_;intro _ _)|(refine ixgi ?_;intro _ _));first|rintro _ _ _ _ _ ⟨rfl,rfl⟩ _|rintro _ _ _ _ _ ⟨_,rfl,_⟩ _|rintro _ _ _ _ _ ⟨_,_,_,_,rfl,rfl,_,_⟩ _|intro _ _ _ _ _ _ _))|(refine sx ?_;intro _ _)|((with_reducible refine g_awp ?_);simp only [g0,g1,g2]))
  · have e : 5 - n = (5 - (n + 1)) + 1 := by omega
    rw [e, chain_y (by omega)] at hc
    exact ⟨by omega, _, rfl, by omega, rfl, by omega⟩
  · have e : n = 5 := by omega
    subst e
    exact pi (by rw [← hc]; simp [chainW])
  · rw [chain_n (by omega)] at hc
    exact pi (by omega)
theorem s_spec_ChainOf {h : AH} {x : Wld} {cs : List AV} {F : List Nat} {k : Int} (ok : Cel.ok x) (hs : Sz.sz x ≤ 67108864) (r : Cel.rep h x cs F) :
    RCalls Tryz.prog n_spec_ChainOf [.agg cs, .int .i64 k] h (.int .i64 (chainW x 5 (waits x k) : Nat)) := by
  obtain ⟨v0, v1, v2, v3, v4, v5, v6, v7, v8, v9, v10, F0, F1, F2, F3, F4, F5, F6, F7, F8, F9, F10, rfl, rfl, r0, r1, r2, r3, r4, r5, r6, r7, r8, r9, r10⟩ := r
  refine reader (c_spec_ChainOf _ _) (by simp only [old]) ?_
  unfold p_spec_ChainOf
  (repeat' first|refine vs ?_|(refine br ?_ ?_<;>intro _<;>try(exfalso;first|omega|contradiction))|((with_reducible refine g_idx ?_);((first|refine ix ?_|refine ixi ?_|(refine ixg ?_;intro _ _)|(refine ixgi ?_;intro _ _));first|rintro _ _ _ _ _ ⟨rfl,rfl⟩ _|rintro _ _ _ _ _ ⟨_,rfl,_⟩ _|rintro _ _ _ _ _ ⟨_,_,_,_,rfl,rfl,_,_⟩ _|intro _ _ _ _ _ _ _))|(refine sx ?_;intro _ _)|((with_reducible refine g_awp ?_);simp only [g0,g1,g2]))
  refine aw_upto 5 (fun n vs h1 => ∃ w, vs = [.int .i64 (n : Int), .int .i64 w] ∧ n ≤ 5 ∧ h1 = h.push ⟨(x.cs v0 v1 v2 v3 v4 v5 v6 v7 v8 v9 v10), 0, 0⟩ ∧ n + chainW x (5 - n) (waits x w) = chainW x 5 (waits x k)) ⟨_, rfl, by omega, rfl, by simp⟩ ?_
  rintro n vs h1 _ ⟨w, rfl, hn, rfl, hc⟩
  simp only [g0, g1]
  have hb := waits_b x w
  (repeat' first|refine vs ?_|(refine br ?_ ?_<;>intro _<;>try(exfalso;first|omega|contradiction))|((with_reducible refine g_callf n_spec_WaitsFor ?_);refine aw_rcall (s_spec_WaitsFor (x := x) ok hs ⟨_, _, _, _, _, _, _, _, _, _, _, _, _, _, _, _, _, _, _, _, _, _, rfl, rfl, slr_auto, slr_auto, slr_auto, slr_auto, slr_auto, slr_auto, slr_auto, slr_auto, slr_auto, slr_auto, slr_auto⟩) ?_)|((with_reducible refine g_idx ?_);((first|refine ix ?_|refine ixi ?_|(refine ixg ?_;intro _ _)|(refine ixgi ?_;intro _ _));first|rintro _ _ _ _ _ ⟨rfl,rfl⟩ _|rintro _ _ _ _ _ ⟨_,rfl,_⟩ _|rintro _ _ _ _ _ ⟨_,_,_,_,rfl,rfl,_,_⟩ _|intro _ _ _ _ _ _ _))|(refine sx ?_;intro _ _)|((with_reducible refine g_awp ?_);simp only [g0,g1,g2]))
  · rw [chain_n (by omega)] at hc
    exact pi (by omega)
  · have e : 5 - n = (5 - (n + 1)) + 1 := by omega
    rw [e, chain_y (by omega)] at hc
    exact ⟨by omega, _, rfl, by omega, rfl, by omega⟩
  · have e : n = 5 := by omega
    subst e
    exact pi (by rw [← hc]; simp [chainW])
end Go.Proofs.YtideefohbkhhhaaGreat
