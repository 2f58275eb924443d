
/- Task: copies, comparisons, sizes. Written by mkl.py. -/
import Derived.Test.YtideefohbkhhhaaGreatLItem
set_option linter.unusedSimpArgs false
set_option linter.unusedVariables false
set_option maxHeartbeats 1000000
namespace Go.Proofs.YtideefohbkhhhaaGreat
open Go Go.Ab
section
/- laws.toTask -/
def p_laws_toTask (x0 : AV) : Prog := .op (.box x0) fun v1 => .op (.alloc z12_f83) fun v2 => .op (.alloc z12_f83) fun v3 => .op (.fad 0 v1) fun v4 => .op (.ld1 v4) fun v5 => .op (.fad 0 v3) fun v6 => .op (.st 1 v6 v5) fun v7 => .op (.fad 1 v1) fun v8 => .op (.ld1 v8) fun v9 => .op (.fad 1 v3) fun v10 => .op (.st 1 v10 v9) fun v11 => .op (.fad 2 v1) fun v12 => .op (.ldn 6 v12) fun v13 => .op (.call n_laws_toSpan [v13]) fun v14 => .op (.fad 2 v3) fun v15 => .op (.st 6 v15 v14) fun v16 => .op (.fad 8 v1) fun v17 => .op (.ld1 v17) fun v18 => .op (.fad 8 v3) fun v19 => .op (.st 1 v19 v18) fun v20 => .op (.fad 9 v1) fun v21 => .op (.ld1 v21) fun v22 => .op (.fad 9 v3) fun v23 => .op (.st 1 v23 v22) fun v24 => .op (.fad 10 v1) fun v25 => .op (.ld1 v25) fun v26 => .op (.call n_laws_toItemS [v26]) fun v27 => .op (.fad 10 v3) fun v28 => .op (.st 1 v28 v27) fun v29 => .op (.fad 11 v1) fun v30 => .op (.ld1 v30) fun v31 => .op (.fad 11 v3) fun v32 => .op (.st 1 v32 v31) fun v33 => .op (.ldn 12 v3) fun v34 => .op (.st 12 v2 v34) fun v35 => .fin [.cn 12 v2]
theorem c_laws_toTask (x0 : AV) : CC Tryz.prog n_laws_toTask [x0] (p_laws_toTask x0) := cc Tryz.func137 [] (fun _ => []) (by kernel_rfl)
/- laws.eqTask -/
def p_laws_eqTask (x0 x1 : AV) : Prog := .op (.box x0) fun v1 => .op (.box x1) fun v2 => .op (.fad 0 v1) fun v3 => .op (.ld1 v3) fun v4 => .op (.fad 0 v2) fun v5 => .op (.ld1 v5) fun v6 => .op (.bin 0 .neq v4 v6) fun v7 => .ite v7 (.fin [.val (AV.bool false)]) (.op (.fad 1 v1) fun v8 => .op (.ld1 v8) fun v9 => .op (.fad 1 v2) fun v10 => .op (.ld1 v10) fun v11 => .op (.bin 0 .neq v9 v11) fun v12 => .ite v12 (.fin [.val (AV.bool false)]) (.op (.fad 2 v1) fun v13 => .op (.ldn 6 v13) fun v14 => .op (.fad 2 v2) fun v15 => .op (.ldn 6 v15) fun v16 => .op (.call n_laws_eqSpan [v14, v16]) fun v17 => .op (.una .not v17) fun v18 => .ite v18 (.fin [.val (AV.bool false)]) (.op (.fad 8 v1) fun v19 => .op (.ld1 v19) fun v20 => .op (.fad 8 v2) fun v21 => .op (.ld1 v21) fun v22 => .op (.bin 0 .neq v20 v22) fun v23 => .ite v23 (.fin [.val (AV.bool false)]) (.op (.fad 9 v1) fun v24 => .op (.ld1 v24) fun v25 => .op (.fad 9 v2) fun v26 => .op (.ld1 v26) fun v27 => .op (.bin 0 .neq v25 v27) fun v28 => .ite v28 (.fin [.val (AV.bool false)]) (.op (.fad 10 v1) fun v29 => .op (.ld1 v29) fun v30 => .op (.fad 10 v2) fun v31 => .op (.ld1 v31) fun v32 => .op (.call n_laws_eqItemS [v30, v32]) fun v33 => .op (.una .not v33) fun v34 => .ite v34 (.fin [.val (AV.bool false)]) (.op (.fad 11 v1) fun v35 => .op (.ld1 v35) fun v36 => .op (.fad 11 v2) fun v37 => .op (.ld1 v37) fun v38 => .op (.bin 0 .neq v36 v38) fun v39 => .ite v39 (.fin [.val (AV.bool false)]) (.fin [.val (AV.bool true)])))))))
theorem c_laws_eqTask (x0 x1 : AV) : CC Tryz.prog n_laws_eqTask [x0, x1] (p_laws_eqTask x0 x1) := cc Tryz.func163 [] (fun _ => []) (by kernel_rfl)
/- laws.szTask -/
def p_laws_szTask (x0 x1 : AV) : Prog := .op (.box x0) fun v1 => .op (.fad 2 v1) fun v2 => .op (.ldn 6 v2) fun v3 => .op (.call n_laws_szSpan [v3, x1]) fun v4 => .op (.bin 0 .lss v4 (AV.int .i64 0)) fun v5 => .ite v5 (.fin [.val (AV.int .i64 (-1))]) (.op (.fad 10 v1) fun v6 => .op (.ld1 v6) fun v7 => .op (.call n_laws_szItemS [v7, v4]) fun v8 => .op (.bin 0 .lss v8 (AV.int .i64 0)) fun v9 => .ite v9 (.fin [.val (AV.int .i64 (-1))]) (.fin [.val v8]))
theorem c_laws_szTask (x0 x1 : AV) : CC Tryz.prog n_laws_szTask [x0, x1] (p_laws_szTask x0 x1) := cc Tryz.func118 [] (fun _ => []) (by kernel_rfl)
end
theorem s_laws_toTask (x : Task) (hs : Sz.sz x ≤ 1048576) : CopyX Task Tryz.prog n_laws_toTask x := by
  rintro cs F h ⟨v0, v1, F0, F1, rfl, rfl, r0, r1⟩
  have hs : Sz.sz x.s + (x.hand.length + szs x.hand) ≤ 1048576 := hs
  have e_s : Sz.sz x.s = (x.s.attrs.length + szs x.s.attrs) := rfl
  refine c_laws_toTask _ ?_
  unfold p_laws_toTask
  (repeat' first|refine vs ?_|(refine br ?_ ?_<;>intro _<;>try(exfalso;first|omega|contradiction))|((with_reducible refine g_callf n_laws_toSpan ?_);(refine aw_call (s_laws_toSpan _ om_auto _ _ _ ⟨_, rfl, slr_auto⟩) ?_; rintro _ _ ⟨e_, _, _, rfl, ⟨_, rfl, _⟩, _⟩; have n_ := e_.1; (try simp only [push_n, upd_n] at n_)))|((with_reducible refine g_callf n_laws_toItemS ?_);(refine aw_call (copy_r s_laws_toItemS slr_auto om_auto) ?_; rintro _ _ ⟨e_, _, _, _⟩; have n_ := e_.1; (try simp only [push_n, upd_n] at n_)))|((with_reducible refine g_idx ?_);((first|refine ix ?_|refine ixi ?_|(refine ixg ?_;intro _ _)|(refine ixgi ?_;intro _ _));first|rintro _ _ _ _ _ ⟨rfl,rfl⟩ _|rintro _ _ _ _ _ ⟨_,rfl,_⟩ _|rintro _ _ _ _ _ ⟨_,_,_,_,rfl,rfl,_,_⟩ _|intro _ _ _ _ _ _ _))|(refine sx ?_;intro _ _)|((with_reducible refine g_awp ?_);simp only [g0,g1,g2]))
  exact ⟨rfl, _, rfl, ext_auto, _, _, rfl, ⟨_, _, _, _, rfl, rfl, slr_auto, slr_auto⟩, (ol_app2 oll_auto oll_auto dis_auto).1⟩
theorem s_laws_eqTask : EqC Task Tryz.prog n_laws_eqTask := by
  rintro x cs cs' F F' h ⟨v0, v1, F0, F1, rfl, rfl, r0, r1⟩ ⟨u0, u1, G0, G1, rfl, rfl, q0, q1⟩
  refine reader (c_laws_eqTask _ _) (by simp only [old]) ?_
  unfold p_laws_eqTask
  (repeat' first|refine vs ?_|(refine br ?_ ?_<;>intro _<;>try(exfalso;first|omega|contradiction))|((with_reducible refine g_callf n_laws_eqSpan ?_);refine aw_rcall (s_laws_eqSpan _ _ _ _ _ _ ⟨_, rfl, slr_auto⟩ ⟨_, rfl, slr_auto⟩) ?_)|((with_reducible refine g_callf n_laws_eqItemS ?_);refine aw_rcall (s_laws_eqItemS _ _ _ _ _ _ slr_auto slr_auto) ?_)|((with_reducible refine g_idx ?_);((first|refine ix ?_|refine ixi ?_|(refine ixg ?_;intro _ _)|(refine ixgi ?_;intro _ _));first|rintro _ _ _ _ _ ⟨rfl,rfl⟩ _|rintro _ _ _ _ _ ⟨_,rfl,_⟩ _|rintro _ _ _ _ _ ⟨_,_,_,_,rfl,rfl,_,_⟩ _|intro _ _ _ _ _ _ _))|(refine sx ?_;intro _ _)|((with_reducible refine g_awp ?_);simp only [g0,g1,g2]))
  exact pb rfl
theorem s_laws_szTask : SzC Task Tryz.prog n_laws_szTask := by
  rintro x ok cs F b h ⟨v0, v1, F0, F1, rfl, rfl, r0, r1⟩ h0 h1
  obtain ⟨ok_op, ok_pc, ok_s, ok_trace, ok_stamp, ok_hand, ok_h⟩ := ok
  have hS : Sz.sz x = Sz.sz x.s + (x.hand.length + szs x.hand) := rfl
  have e_s : Sz.sz x.s = (x.s.attrs.length + szs x.s.attrs) := rfl
  refine reader (c_laws_szTask _ _) (by simp only [old]) ?_
  unfold p_laws_szTask
  (repeat' first|refine vs ?_|(refine br ?_ ?_<;>intro _<;>try(exfalso;first|omega|contradiction))|((with_reducible refine g_callf n_laws_szSpan ?_);(refine aw_sz (s_laws_szSpan _ (by assumption) _ _ _ _ ⟨_, rfl, slr_auto⟩ om_auto om_auto) (fun _ => ?_) (fun _ => ?_)))|((with_reducible refine g_callf n_laws_szItemS ?_);(refine aw_sz (szl s_laws_szItemS slr_auto (by assumption) om_auto om_auto) (fun _ => ?_) (fun _ => ?_)))|((with_reducible refine g_idx ?_);((first|refine ix ?_|refine ixi ?_|(refine ixg ?_;intro _ _)|(refine ixgi ?_;intro _ _));first|rintro _ _ _ _ _ ⟨rfl,rfl⟩ _|rintro _ _ _ _ _ ⟨_,rfl,_⟩ _|rintro _ _ _ _ _ ⟨_,_,_,_,rfl,rfl,_,_⟩ _|intro _ _ _ _ _ _ _))|(refine sx ?_;intro _ _)|((with_reducible refine g_awp ?_);simp only [g0,g1,g2]))
  all_goals (refine pi ?_; unfold szr; split <;> omega)
end Go.Proofs.YtideefohbkhhhaaGreat
