
/- Wheel: copies, comparisons, sizes. Written by mkl.py. -/
import Derived.Test.YtideefohbkhhhaaGreatLTimer
set_option linter.unusedSimpArgs false
set_option linter.unusedVariables false
set_option maxHeartbeats 1000000
namespace Go.Proofs.YtideefohbkhhhaaGreat
open Go Go.Ab
section
/- laws.toWheel -/
def p_laws_toWheel (x0 : AV) : Prog := .op (.box x0) fun v1 => .op (.alloc [AV.int .i64 0, AV.nils, AV.nils, AV.nils]) fun v2 => .op (.alloc [AV.int .i64 0, AV.nils, AV.nils, AV.nils]) fun v3 => .op (.fad 0 v1) fun v4 => .op (.ld1 v4) fun v5 => .op (.fad 0 v3) fun v6 => .op (.st 1 v6 v5) fun v7 => .op (.fad 1 v1) fun v8 => .op (.ld1 v8) fun v9 => .op (.call n_laws_toTimerSS [v9]) fun v10 => .op (.fad 1 v3) fun v11 => .op (.st 1 v11 v10) fun v12 => .op (.fad 2 v1) fun v13 => .op (.ld1 v13) fun v14 => .op (.call n_laws_toTimerSS [v14]) fun v15 => .op (.fad 2 v3) fun v16 => .op (.st 1 v16 v15) fun v17 => .op (.fad 3 v1) fun v18 => .op (.ld1 v18) fun v19 => .op (.call n_laws_toTimerS [v19]) fun v20 => .op (.fad 3 v3) fun v21 => .op (.st 1 v21 v20) fun v22 => .op (.ldn 4 v3) fun v23 => .op (.st 4 v2 v23) fun v24 => .fin [.cn 4 v2]
theorem c_laws_toWheel (x0 : AV) : CC Tryz.prog n_laws_toWheel [x0] (p_laws_toWheel x0) := cc Tryz.func59 [] (fun _ => []) (by kernel_rfl)
/- laws.eqWheel -/
def p_laws_eqWheel (x0 x1 : AV) : Prog := .op (.box x0) fun v1 => .op (.box x1) fun v2 => .op (.fad 0 v1) fun v3 => .op (.ld1 v3) fun v4 => .op (.fad 0 v2) fun v5 => .op (.ld1 v5) fun v6 => .op (.bin 0 .neq v4 v6) fun v7 => .ite v7 (.fin [.val (AV.bool false)]) (.op (.fad 1 v1) fun v8 => .op (.ld1 v8) fun v9 => .op (.fad 1 v2) fun v10 => .op (.ld1 v10) fun v11 => .op (.call n_laws_eqTimerSS [v9, v11]) fun v12 => .op (.una .not v12) fun v13 => .ite v13 (.fin [.val (AV.bool false)]) (.op (.fad 2 v1) fun v14 => .op (.ld1 v14) fun v15 => .op (.fad 2 v2) fun v16 => .op (.ld1 v16) fun v17 => .op (.call n_laws_eqTimerSS [v15, v17]) fun v18 => .op (.una .not v18) fun v19 => .ite v19 (.fin [.val (AV.bool false)]) (.op (.fad 3 v1) fun v20 => .op (.ld1 v20) fun v21 => .op (.fad 3 v2) fun v22 => .op (.ld1 v22) fun v23 => .op (.call n_laws_eqTimerS [v21, v23]) fun v24 => .op (.una .not v24) fun v25 => .ite v25 (.fin [.val (AV.bool false)]) (.fin [.val (AV.bool true)]))))
theorem c_laws_eqWheel (x0 x1 : AV) : CC Tryz.prog n_laws_eqWheel [x0, x1] (p_laws_eqWheel x0 x1) := cc Tryz.func71 [] (fun _ => []) (by kernel_rfl)
/- laws.szWheel -/
def p_laws_szWheel (x0 x1 : AV) : Prog := .op (.box x0) fun v1 => .op (.fad 1 v1) fun v2 => .op (.ld1 v2) fun v3 => .op (.call n_laws_szTimerSS [v3, x1]) fun v4 => .op (.bin 0 .lss v4 (AV.int .i64 0)) fun v5 => .ite v5 (.fin [.val (AV.int .i64 (-1))]) (.op (.fad 2 v1) fun v6 => .op (.ld1 v6) fun v7 => .op (.call n_laws_szTimerSS [v7, v4]) fun v8 => .op (.bin 0 .lss v8 (AV.int .i64 0)) fun v9 => .ite v9 (.fin [.val (AV.int .i64 (-1))]) (.op (.fad 3 v1) fun v10 => .op (.ld1 v10) fun v11 => .op (.call n_laws_szTimerS [v11, v8]) fun v12 => .op (.bin 0 .lss v12 (AV.int .i64 0)) fun v13 => .ite v13 (.fin [.val (AV.int .i64 (-1))]) (.fin [.val v12])))
theorem c_laws_szWheel (x0 x1 : AV) : CC Tryz.prog n_laws_szWheel [x0, x1] (p_laws_szWheel x0 x1) := cc Tryz.func39 [] (fun _ => []) (by kernel_rfl)
end
theorem s_laws_toWheel (x : Wheel) (hs : Sz.sz x ≤ 1048576) : CopyX Wheel Tryz.prog n_laws_toWheel x := by
  rintro cs F h ⟨v0, v1, v2, F0, F1, F2, rfl, rfl, r0, r1, r2⟩
  have hs : (x.near.length + szs x.near) + (x.far.length + szs x.far) + (x.rest.length + szs x.rest) ≤ 1048576 := hs
  refine c_laws_toWheel _ ?_
  unfold p_laws_toWheel
  (repeat' first|refine vs ?_|(refine br ?_ ?_<;>intro _<;>try(exfalso;first|omega|contradiction))|((with_reducible refine g_callf n_laws_toTimerSS ?_);(refine aw_call (copy_r s_laws_toTimerSS slr_auto om_auto) ?_; rintro _ _ ⟨e_, _, _, _⟩; have n_ := e_.1; (try simp only [push_n, upd_n] at n_)))|((with_reducible refine g_callf n_laws_toTimerS ?_);(refine aw_call (copy_r s_laws_toTimerS slr_auto om_auto) ?_; rintro _ _ ⟨e_, _, _, _⟩; have n_ := e_.1; (try simp only [push_n, upd_n] at n_)))|((with_reducible refine g_idx ?_);((first|refine ix ?_|refine ixi ?_|(refine ixg ?_;intro _ _)|(refine ixgi ?_;intro _ _));first|rintro _ _ _ _ _ ⟨rfl,rfl⟩ _|rintro _ _ _ _ _ ⟨_,rfl,_⟩ _|rintro _ _ _ _ _ ⟨_,_,_,_,rfl,rfl,_,_⟩ _|intro _ _ _ _ _ _ _))|(refine sx ?_;intro _ _)|((with_reducible refine g_awp ?_);simp only [g0,g1,g2]))
  exact ⟨rfl, _, rfl, ext_auto, _, _, rfl, ⟨_, _, _, _, _, _, rfl, rfl, slr_auto, slr_auto, slr_auto⟩, (ol_app2 oll_auto (ol_app2 oll_auto oll_auto disn_auto) disn_auto).1⟩
theorem s_laws_eqWheel : EqC Wheel Tryz.prog n_laws_eqWheel := by
  rintro x cs cs' F F' h ⟨v0, v1, v2, F0, F1, F2, rfl, rfl, r0, r1, r2⟩ ⟨u0, u1, u2, G0, G1, G2, rfl, rfl, q0, q1, q2⟩
  refine reader (c_laws_eqWheel _ _) (by simp only [old]) ?_
  unfold p_laws_eqWheel
  (repeat' first|refine vs ?_|(refine br ?_ ?_<;>intro _<;>try(exfalso;first|omega|contradiction))|((with_reducible refine g_callf n_laws_eqTimerSS ?_);refine aw_rcall (s_laws_eqTimerSS _ _ _ _ _ _ slr_auto slr_auto) ?_)|((with_reducible refine g_callf n_laws_eqTimerS ?_);refine aw_rcall (s_laws_eqTimerS _ _ _ _ _ _ slr_auto slr_auto) ?_)|((with_reducible refine g_idx ?_);((first|refine ix ?_|refine ixi ?_|(refine ixg ?_;intro _ _)|(refine ixgi ?_;intro _ _));first|rintro _ _ _ _ _ ⟨rfl,rfl⟩ _|rintro _ _ _ _ _ ⟨_,rfl,_⟩ _|rintro _ _ _ _ _ ⟨_,_,_,_,rfl,rfl,_,_⟩ _|intro _ _ _ _ _ _ _))|(refine sx ?_;intro _ _)|((with_reducible refine g_awp ?_);simp only [g0,g1,g2]))
  exact pb rfl
theorem s_laws_szWheel : SzC Wheel Tryz.prog n_laws_szWheel := by
  rintro x ok cs F b h ⟨v0, v1, v2, F0, F1, F2, rfl, rfl, r0, r1, r2⟩ h0 h1
  obtain ⟨ok_now, ok_near, ok_far, ok_rest⟩ := ok
  have hS : Sz.sz x = (x.near.length + szs x.near) + (x.far.length + szs x.far) + (x.rest.length + szs x.rest) := rfl
  refine reader (c_laws_szWheel _ _) (by simp only [old]) ?_
  unfold p_laws_szWheel
  (repeat' first|refine vs ?_|(refine br ?_ ?_<;>intro _<;>try(exfalso;first|omega|contradiction))|((with_reducible refine g_callf n_laws_szTimerSS ?_);(refine aw_sz (szl s_laws_szTimerSS slr_auto (by assumption) om_auto om_auto) (fun _ => ?_) (fun _ => ?_)))|((with_reducible refine g_callf n_laws_szTimerS ?_);(refine aw_sz (szl s_laws_szTimerS slr_auto (by assumption) om_auto om_auto) (fun _ => ?_) (fun _ => ?_)))|((with_reducible refine g_idx ?_);((first|refine ix ?_|refine ixi ?_|(refine ixg ?_;intro _ _)|(refine ixgi ?_;intro _ _));first|rintro _ _ _ _ _ ⟨rfl,rfl⟩ _|rintro _ _ _ _ _ ⟨_,rfl,_⟩ _|rintro _ _ _ _ _ ⟨_,_,_,_,rfl,rfl,_,_⟩ _|intro _ _ _ _ _ _ _))|(refine sx ?_;intro _ _)|((with_reducible refine g_awp ?_);simp only [g0,g1,g2]))
  all_goals (refine pi ?_; unfold szr; split <;> omega)
end Go.Proofs.YtideefohbkhhhaaGreat
