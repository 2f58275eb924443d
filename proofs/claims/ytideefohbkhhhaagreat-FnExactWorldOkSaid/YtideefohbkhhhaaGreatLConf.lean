
/- Conf: copies, comparisons, sizes. Written by mkl.py. -/
import Derived.Test.YtideefohbkhhhaaGreatLPol
set_option linter.unusedSimpArgs false
set_option linter.unusedVariables false
set_option maxHeartbeats 1000000
namespace Go.Proofs.YtideefohbkhhhaaGreat
open Go Go.Ab
section
/- laws.toConf -/
def p_laws_toConf (x0 : AV) : Prog := .op (.box x0) fun v1 => .op (.alloc z12_a94) fun v2 => .op (.alloc z12_a94) fun v3 => .op (.fad 0 v1) fun v4 => .op (.ld1 v4) fun v5 => .op (.fad 0 v3) fun v6 => .op (.st 1 v6 v5) fun v7 => .op (.fad 1 v1) fun v8 => .op (.ld1 v8) fun v9 => .op (.fad 1 v3) fun v10 => .op (.st 1 v10 v9) fun v11 => .op (.fad 2 v1) fun v12 => .op (.ld1 v12) fun v13 => .op (.fad 2 v3) fun v14 => .op (.st 1 v14 v13) fun v15 => .op (.fad 3 v1) fun v16 => .op (.ld1 v16) fun v17 => .op (.fad 3 v3) fun v18 => .op (.st 1 v18 v17) fun v19 => .op (.fad 4 v1) fun v20 => .op (.ld1 v20) fun v21 => .op (.fad 4 v3) fun v22 => .op (.st 1 v22 v21) fun v23 => .op (.fad 5 v1) fun v24 => .op (.ld1 v24) fun v25 => .op (.fad 5 v3) fun v26 => .op (.st 1 v26 v25) fun v27 => .op (.fad 6 v1) fun v28 => .op (.ld1 v28) fun v29 => .op (.fad 6 v3) fun v30 => .op (.st 1 v30 v29) fun v31 => .op (.fad 7 v1) fun v32 => .op (.ldn 5 v32) fun v33 => .op (.call n_laws_toPol [v33]) fun v34 => .op (.fad 7 v3) fun v35 => .op (.st 5 v35 v34) fun v36 => .op (.ldn 12 v3) fun v37 => .op (.st 12 v2 v37) fun v38 => .fin [.cn 12 v2]
theorem c_laws_toConf (x0 : AV) : CC Tryz.prog n_laws_toConf [x0] (p_laws_toConf x0) := cc Tryz.func55 [] (fun _ => []) (by kernel_rfl)
/- laws.eqConf -/
def p_laws_eqConf (x0 x1 : AV) : Prog := .op (.box x0) fun v1 => .op (.box x1) fun v2 => .op (.fad 0 v1) fun v3 => .op (.ld1 v3) fun v4 => .op (.fad 0 v2) fun v5 => .op (.ld1 v5) fun v6 => .op (.bin 0 .neq v4 v6) fun v7 => .ite v7 (.fin [.val (AV.bool false)]) (.op (.fad 1 v1) fun v8 => .op (.ld1 v8) fun v9 => .op (.fad 1 v2) fun v10 => .op (.ld1 v10) fun v11 => .op (.bin 0 .neq v9 v11) fun v12 => .ite v12 (.fin [.val (AV.bool false)]) (.op (.fad 2 v1) fun v13 => .op (.ld1 v13) fun v14 => .op (.fad 2 v2) fun v15 => .op (.ld1 v15) fun v16 => .op (.bin 0 .neq v14 v16) fun v17 => .ite v17 (.fin [.val (AV.bool false)]) (.op (.fad 3 v1) fun v18 => .op (.ld1 v18) fun v19 => .op (.fad 3 v2) fun v20 => .op (.ld1 v20) fun v21 => .op (.bin 0 .neq v19 v21) fun v22 => .ite v22 (.fin [.val (AV.bool false)]) (.op (.fad 4 v1) fun v23 => .op (.ld1 v23) fun v24 => .op (.fad 4 v2) fun v25 => .op (.ld1 v25) fun v26 => .op (.bin 0 .neq v24 v26) fun v27 => .ite v27 (.fin [.val (AV.bool false)]) (.op (.fad 5 v1) fun v28 => .op (.ld1 v28) fun v29 => .op (.fad 5 v2) fun v30 => .op (.ld1 v30) fun v31 => .op (.bin 0 .neq v29 v31) fun v32 => .ite v32 (.fin [.val (AV.bool false)]) (.op (.fad 6 v1) fun v33 => .op (.ld1 v33) fun v34 => .op (.fad 6 v2) fun v35 => .op (.ld1 v35) fun v36 => .op (.bin 0 .neq v34 v36) fun v37 => .ite v37 (.fin [.val (AV.bool false)]) (.op (.fad 7 v1) fun v38 => .op (.ldn 5 v38) fun v39 => .op (.fad 7 v2) fun v40 => .op (.ldn 5 v40) fun v41 => .op (.call n_laws_eqPol [v39, v41]) fun v42 => .op (.una .not v42) fun v43 => .ite v43 (.fin [.val (AV.bool false)]) (.fin [.val (AV.bool true)]))))))))
theorem c_laws_eqConf (x0 x1 : AV) : CC Tryz.prog n_laws_eqConf [x0, x1] (p_laws_eqConf x0 x1) := cc Tryz.func67 [] (fun _ => []) (by kernel_rfl)
/- laws.szConf -/
def p_laws_szConf (x0 x1 : AV) : Prog := .op (.box x0) fun v1 => .op (.fad 7 v1) fun v2 => .op (.ldn 5 v2) fun v3 => .op (.call n_laws_szPol [v3, x1]) fun v4 => .op (.bin 0 .lss v4 (AV.int .i64 0)) fun v5 => .ite v5 (.fin [.val (AV.int .i64 (-1))]) (.fin [.val v4])
theorem c_laws_szConf (x0 x1 : AV) : CC Tryz.prog n_laws_szConf [x0, x1] (p_laws_szConf x0 x1) := cc Tryz.func36 [] (fun _ => []) (by kernel_rfl)
end
theorem s_laws_toConf (x : Conf) (hs : Sz.sz x ≤ 1048576) : CopyX Conf Tryz.prog n_laws_toConf x := by
  rintro cs F h ⟨v0, rfl, r0⟩
  have hs : Sz.sz x.rule ≤ 1048576 := hs
  have e_rule : Sz.sz x.rule = x.rule.key.size + x.rule.text.size + (x.rule.l.length + szs x.rule.l) := Pol.sz_eq _
  refine c_laws_toConf _ ?_
  unfold p_laws_toConf
  (repeat' first|refine vs ?_|(refine br ?_ ?_<;>intro _<;>try(exfalso;first|omega|contradiction))|((with_reducible refine g_callf n_laws_toPol ?_);(refine aw_call (s_laws_toPol _ om_auto _ _ _ (Pol.rep_iff.2 ⟨_, rfl, slr_auto⟩)) ?_; rintro _ _ ⟨e_, _, _, rfl, r_, _⟩; obtain ⟨_, rfl, _⟩ := Pol.rep_iff.1 r_; have n_ := e_.1; (try simp only [push_n, upd_n] at n_)))|((with_reducible refine g_idx ?_);((first|refine ix ?_|refine ixi ?_|(refine ixg ?_;intro _ _)|(refine ixgi ?_;intro _ _));first|rintro _ _ _ _ _ ⟨rfl,rfl⟩ _|rintro _ _ _ _ _ ⟨_,rfl,_⟩ _|rintro _ _ _ _ _ ⟨_,_,_,_,rfl,rfl,_,_⟩ _|intro _ _ _ _ _ _ _))|(refine sx ?_;intro _ _)|((with_reducible refine g_awp ?_);simp only [g0,g1,g2]))
  exact ⟨rfl, _, rfl, ext_auto, _, _, rfl, ⟨_, rfl, slr_auto⟩, ol_auto⟩
theorem s_laws_eqConf : EqC Conf Tryz.prog n_laws_eqConf := by
  rintro x cs cs' F F' h ⟨v0, rfl, r0⟩ ⟨u0, rfl, q0⟩
  refine reader (c_laws_eqConf _ _) (by simp only [old]) ?_
  unfold p_laws_eqConf
  (repeat' first|refine vs ?_|(refine br ?_ ?_<;>intro _<;>try(exfalso;first|omega|contradiction))|((with_reducible refine g_callf n_laws_eqPol ?_);refine aw_rcall (s_laws_eqPol _ _ _ _ _ _ (Pol.rep_iff.2 ⟨_, rfl, slr_auto⟩) (Pol.rep_iff.2 ⟨_, rfl, slr_auto⟩)) ?_)|((with_reducible refine g_idx ?_);((first|refine ix ?_|refine ixi ?_|(refine ixg ?_;intro _ _)|(refine ixgi ?_;intro _ _));first|rintro _ _ _ _ _ ⟨rfl,rfl⟩ _|rintro _ _ _ _ _ ⟨_,rfl,_⟩ _|rintro _ _ _ _ _ ⟨_,_,_,_,rfl,rfl,_,_⟩ _|intro _ _ _ _ _ _ _))|(refine sx ?_;intro _ _)|((with_reducible refine g_awp ?_);simp only [g0,g1,g2]))
  exact pb rfl
theorem s_laws_szConf : SzC Conf Tryz.prog n_laws_szConf := by
  rintro x ok cs F b h ⟨v0, rfl, r0⟩ h0 h1
  obtain ⟨ok_stripes, ok_wait, ok_budget, ok_cache, ok_queue, ok_rate, ok_burst, ok_rule⟩ := ok
  have hS : Sz.sz x = Sz.sz x.rule := rfl
  have e_rule : Sz.sz x.rule = x.rule.key.size + x.rule.text.size + (x.rule.l.length + szs x.rule.l) := Pol.sz_eq _
  refine reader (c_laws_szConf _ _) (by simp only [old]) ?_
  unfold p_laws_szConf
  (repeat' first|refine vs ?_|(refine br ?_ ?_<;>intro _<;>try(exfalso;first|omega|contradiction))|((with_reducible refine g_callf n_laws_szPol ?_);(refine aw_sz (s_laws_szPol _ (by assumption) _ _ _ _ (Pol.rep_iff.2 ⟨_, rfl, slr_auto⟩) om_auto om_auto) (fun _ => ?_) (fun _ => ?_)))|((with_reducible refine g_idx ?_);((first|refine ix ?_|refine ixi ?_|(refine ixg ?_;intro _ _)|(refine ixgi ?_;intro _ _));first|rintro _ _ _ _ _ ⟨rfl,rfl⟩ _|rintro _ _ _ _ _ ⟨_,rfl,_⟩ _|rintro _ _ _ _ _ ⟨_,_,_,_,rfl,rfl,_,_⟩ _|intro _ _ _ _ _ _ _))|(refine sx ?_;intro _ _)|((with_reducible refine g_awp ?_);simp only [g0,g1,g2]))
  all_goals (refine pi ?_; unfold szr; split <;> omega)
end Go.Proofs.YtideefohbkhhhaaGreat
