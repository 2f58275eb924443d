/- Trail: copies, comparisons, sizes. Written by mkl.py. -/
import Derived.Test.YtpcgbddmdipfbaaLSpan
set_option linter.unusedSimpArgs false
set_option linter.unusedVariables false
set_option maxHeartbeats 1000000
namespace Go.Proofs.Ytpcgbddmdipfbaa
open Go Go.Ab
section
/- laws.toTrail -/
def p_laws_toTrail (x0 : AV) : Prog := .op (.box x0) fun v1 => .op (.alloc [AV.int .i64 0, AV.int .i64 0, AV.int .i64 0, AV.nils]) fun v2 => .op (.alloc [AV.int .i64 0, AV.int .i64 0, AV.int .i64 0, AV.nils]) fun v3 => .op (.fad 0 v1) fun v4 => .op (.ld1 v4) fun v5 => .op (.fad 0 v3) fun v6 => .op (.st 1 v6 v5) fun v7 => .op (.fad 1 v1) fun v8 => .op (.ld1 v8) fun v9 => .op (.fad 1 v3) fun v10 => .op (.st 1 v10 v9) fun v11 => .op (.fad 2 v1) fun v12 => .op (.ld1 v12) fun v13 => .op (.fad 2 v3) fun v14 => .op (.st 1 v14 v13) fun v15 => .op (.fad 3 v1) fun v16 => .op (.ld1 v16) fun v17 => .op (.call n_laws_toSpanS [v17]) fun v18 => .op (.fad 3 v3) fun v19 => .op (.st 1 v19 v18) fun v20 => .op (.ldn 4 v3) fun v21 => .op (.st 4 v2 v21) fun v22 => .fin [.cn 4 v2]
theorem c_laws_toTrail (x0 : AV) : CC Try.prog n_laws_toTrail [x0] (p_laws_toTrail x0) := cc Try.func127 [] (fun _ => []) (by kernel_rfl)
/- laws.eqTrail -/
def p_laws_eqTrail (x0 x1 : AV) : Prog := .op (.box x0) fun v1 => .op (.box x1) fun v2 => .op (.fad 0 v1) fun v3 => .op (.ld1 v3) fun v4 => .op (.fad 0 v2) fun v5 => .op (.ld1 v5) fun v6 => .op (.bin 0 .neq v4 v6) fun v7 => .ite v7 (.fin [.val (AV.bool false)]) (.op (.fad 1 v1) fun v8 => .op (.ld1 v8) fun v9 => .op (.fad 1 v2) fun v10 => .op (.ld1 v10) fun v11 => .op (.bin 0 .neq v9 v11) fun v12 => .ite v12 (.fin [.val (AV.bool false)]) (.op (.fad 2 v1) fun v13 => .op (.ld1 v13) fun v14 => .op (.fad 2 v2) fun v15 => .op (.ld1 v15) fun v16 => .op (.bin 0 .neq v14 v16) fun v17 => .ite v17 (.fin [.val (AV.bool false)]) (.op (.fad 3 v1) fun v18 => .op (.ld1 v18) fun v19 => .op (.fad 3 v2) fun v20 => .op (.ld1 v20) fun v21 => .op (.call n_laws_eqSpanS [v19, v21]) fun v22 => .op (.una .not v22) fun v23 => .ite v23 (.fin [.val (AV.bool false)]) (.fin [.val (AV.bool true)]))))
theorem c_laws_eqTrail (x0 x1 : AV) : CC Try.prog n_laws_eqTrail [x0, x1] (p_laws_eqTrail x0 x1) := cc Try.func134 [] (fun _ => []) (by kernel_rfl)
/- laws.szTrail -/
def p_laws_szTrail (x0 x1 : AV) : Prog := .op (.box x0) fun v1 => .op (.fad 3 v1) fun v2 => .op (.ld1 v2) fun v3 => .op (.call n_laws_szSpanS [v3, x1]) fun v4 => .op (.bin 0 .lss v4 (AV.int .i64 0)) fun v5 => .ite v5 (.fin [.val (AV.int .i64 (-1))]) (.fin [.val v4])
theorem c_laws_szTrail (x0 x1 : AV) : CC Try.prog n_laws_szTrail [x0, x1] (p_laws_szTrail x0 x1) := cc Try.func123 [] (fun _ => []) (by kernel_rfl)
/- laws.toTrailS -/
def p_laws_toTrailS (x0 : AV) : Prog := .op (.len 0 x0) fun v1 => .op (.mksl 4 48 [AV.int .i64 0, AV.int .i64 0, AV.int .i64 0, AV.nils] v1 v1) fun v2 => .loop [AV.int .i64 0] (fun vs3 => .op (.len 0 x0) fun v5 => .op (.bin 0 .lss (g vs3 0) v5) fun v6 => .ite v6 (.op (.idx 4 x0 (g vs3 0)) fun v7 => .op (.ldn 4 v7) fun v8 => .op (.call n_laws_toTrail [v8]) fun v9 => .op (.idx 4 v2 (g vs3 0)) fun v10 => .op (.st 4 v10 v9) fun v11 => .op (.bin 0 .add (g vs3 0) (AV.int .i64 1)) fun v12 => .leaf 0 [v12]) (.leaf 2 [g vs3 0])) fun t4 vs3 => tsel t4 1 (.leaf 1 vs3) (tsel t4 2 (.fin [.val v2]) .bad)
theorem c_laws_toTrailS (x0 : AV) : CC Try.prog n_laws_toTrailS [x0] (p_laws_toTrailS x0) := cc Try.func23 [0, 3, 4] (fun _ => []) (by kernel_rfl)
/- laws.eqTrailS -/
def p_laws_eqTrailS (x0 x1 : AV) : Prog := .op (.len 0 x0) fun v1 => .op (.len 0 x1) fun v2 => .op (.bin 0 .neq v1 v2) fun v3 => .ite v3 (.fin [.val (AV.bool false)]) (.loop [AV.int .i64 0] (fun vs4 => .op (.len 0 x0) fun v6 => .op (.bin 0 .lss (g vs4 0) v6) fun v7 => .ite v7 (.op (.idx 4 x0 (g vs4 0)) fun v8 => .op (.ldn 4 v8) fun v9 => .op (.idx 4 x1 (g vs4 0)) fun v10 => .op (.ldn 4 v10) fun v11 => .op (.call n_laws_eqTrail [v9, v11]) fun v12 => .op (.una .not v12) fun v13 => .ite v13 (.fin [.val (AV.bool false)]) (.op (.bin 0 .add (g vs4 0) (AV.int .i64 1)) fun v14 => .leaf 0 [v14])) (.leaf 2 [g vs4 0])) fun t5 vs4 => tsel t5 1 (.leaf 1 vs4) (tsel t5 2 (.fin [.val (AV.bool true)]) .bad))
theorem c_laws_eqTrailS (x0 x1 : AV) : CC Try.prog n_laws_eqTrailS [x0, x1] (p_laws_eqTrailS x0 x1) := cc Try.func26 [0, 1, 5] (fun r => if r = 6 then [(0, []), (1, []), (2, []), (3, []), (4, []), (5, []), (6, []), (7, []), (8, []), (9, [])] else []) (by kernel_rfl)
/- laws.szTrailS -/
def p_laws_szTrailS (x0 x1 : AV) : Prog := .op (.len 0 x0) fun v1 => .op (.bin 0 .sub x1 v1) fun v2 => .op (.bin 0 .lss v2 (AV.int .i64 0)) fun v3 => .ite v3 (.fin [.val (AV.int .i64 (-1))]) (.loop [v2, AV.int .i64 0] (fun vs4 => .op (.len 0 x0) fun v6 => .op (.bin 0 .lss (g vs4 1) v6) fun v7 => .ite v7 (.op (.idx 4 x0 (g vs4 1)) fun v8 => .op (.ldn 4 v8) fun v9 => .op (.call n_laws_szTrail [v9, g vs4 0]) fun v10 => .op (.bin 0 .lss v10 (AV.int .i64 0)) fun v11 => .ite v11 (.fin [.val (AV.int .i64 (-1))]) (.op (.bin 0 .add (g vs4 1) (AV.int .i64 1)) fun v12 => .leaf 0 [v10, v12])) (.leaf 2 [g vs4 0, g vs4 1])) fun t5 vs4 => tsel t5 1 (.leaf 1 vs4) (tsel t5 2 (.fin [.val (g vs4 0)]) .bad))
theorem c_laws_szTrailS (x0 x1 : AV) : CC Try.prog n_laws_szTrailS [x0, x1] (p_laws_szTrailS x0 x1) := cc Try.func20 [0, 1, 5] (fun _ => []) (by kernel_rfl)
end
theorem s_laws_toTrail (x : Trail) (hs : Sz.sz x ≤ 1048576) : CopyX Trail Try.prog n_laws_toTrail x := by
  rintro cs F h ⟨v0, rfl, r0⟩
  have hs : (x.spans.length + szs x.spans) ≤ 1048576 := hs
  refine c_laws_toTrail _ ?_
  unfold p_laws_toTrail
  (repeat' first|refine vs ?_|(refine br ?_ ?_<;>intro _<;>try(exfalso;first|omega|contradiction))|((with_reducible refine g_callf n_laws_toSpanS ?_);(refine aw_call (copy_r s_laws_toSpanS slr_auto om_auto) ?_; rintro _ _ ⟨e_, _, _, _⟩; have n_ := e_.1; (try simp only [push_n, upd_n] at n_)))|((with_reducible refine g_idx ?_);((first|refine ix ?_|refine ixi ?_|(refine ixg ?_;intro _ _)|(refine ixgi ?_;intro _ _));first|rintro _ _ _ _ _ ⟨rfl,rfl⟩ _|rintro _ _ _ _ _ ⟨_,rfl,_⟩ _|rintro _ _ _ _ _ ⟨_,_,_,_,rfl,rfl,_,_⟩ _|intro _ _ _ _ _ _ _))|(refine sx ?_;intro _ _)|((with_reducible refine g_awp ?_);simp only [g0,g1,g2]))
  exact ⟨rfl, _, rfl, ext_auto, _, _, rfl, ⟨_, rfl, slr_auto⟩, ol_auto⟩
theorem s_laws_eqTrail : EqC Trail Try.prog n_laws_eqTrail := by
  rintro x cs cs' F F' h ⟨v0, rfl, r0⟩ ⟨u0, rfl, q0⟩
  refine reader (c_laws_eqTrail _ _) (by simp only [old]) ?_
  unfold p_laws_eqTrail
  (repeat' first|refine vs ?_|(refine br ?_ ?_<;>intro _<;>try(exfalso;first|omega|contradiction))|((with_reducible refine g_callf n_laws_eqSpanS ?_);refine aw_rcall (s_laws_eqSpanS _ _ _ _ _ _ slr_auto slr_auto) ?_)|((with_reducible refine g_idx ?_);((first|refine ix ?_|refine ixi ?_|(refine ixg ?_;intro _ _)|(refine ixgi ?_;intro _ _));first|rintro _ _ _ _ _ ⟨rfl,rfl⟩ _|rintro _ _ _ _ _ ⟨_,rfl,_⟩ _|rintro _ _ _ _ _ ⟨_,_,_,_,rfl,rfl,_,_⟩ _|intro _ _ _ _ _ _ _))|(refine sx ?_;intro _ _)|((with_reducible refine g_awp ?_);simp only [g0,g1,g2]))
  exact pb rfl
theorem s_laws_szTrail : SzC Trail Try.prog n_laws_szTrail := by
  rintro x ok cs F b h ⟨v0, rfl, r0⟩ h0 h1
  obtain ⟨ok_id, ok_stamp, ok_first, ok_spans⟩ := ok
  have hS : Sz.sz x = (x.spans.length + szs x.spans) := rfl
  refine reader (c_laws_szTrail _ _) (by simp only [old]) ?_
  unfold p_laws_szTrail
  (repeat' first|refine vs ?_|(refine br ?_ ?_<;>intro _<;>try(exfalso;first|omega|contradiction))|((with_reducible refine g_callf n_laws_szSpanS ?_);(refine aw_sz (szl s_laws_szSpanS slr_auto (by assumption) om_auto om_auto) (fun _ => ?_) (fun _ => ?_)))|((with_reducible refine g_idx ?_);((first|refine ix ?_|refine ixi ?_|(refine ixg ?_;intro _ _)|(refine ixgi ?_;intro _ _));first|rintro _ _ _ _ _ ⟨rfl,rfl⟩ _|rintro _ _ _ _ _ ⟨_,rfl,_⟩ _|rintro _ _ _ _ _ ⟨_,_,_,_,rfl,rfl,_,_⟩ _|intro _ _ _ _ _ _ _))|(refine sx ?_;intro _ _)|((with_reducible refine g_awp ?_);simp only [g0,g1,g2]))
  all_goals (refine pi ?_; unfold szr; split <;> omega)
theorem s_laws_toTrailS (xs : List Trail) (hs : xs.length + szs xs ≤ 1048576) : CopyL Try.prog n_laws_toTrailS xs := copyL_of rfl rfl (by decide) hs (fun x hx => s_laws_toTrail x hx) (fun g => c_laws_toTrailS _ g)
theorem s_laws_eqTrailS : EqS Trail Try.prog n_laws_eqTrailS := fun xs v v' F F' h r r' => reader (c_laws_eqTrailS _ _) (by simp only [old]) (eqS_spec rfl s_laws_eqTrail r r')
theorem s_laws_szTrailS : SzL Trail Try.prog n_laws_szTrailS := fun xs ok v F b h r h0 h1 => reader (c_laws_szTrailS _ _) (by simp only [old]) (szS_spec rfl s_laws_szTrail ok r h0 h1)
end Go.Proofs.Ytpcgbddmdipfbaa
