
/- Trail: copies, comparisons, sizes. Written by mkl.py. -/
import Derived.Test.YtienckhjfcplcaaLSpan
set_option linter.unusedSimpArgs false
set_option linter.unusedVariables false
set_option maxHeartbeats 1000000
namespace Go.Proofs.Ytienckhjfcplcaa
open Go Go.Ab
section
/- laws.toTrail -/
def p_laws_toTrail (x0 : AV) : Prog := .op (.box x0) fun v => .op (.alloc [AV.int .i64 0, AV.int .i64 0, AV.int .i64 0, AV.nils]) fun v_1 => .op (.alloc [AV.int .i64 0, AV.int .i64 0, AV.int .i64 0, AV.nils]) fun v_2 => .op (.fad 0 v) fun v_3 => .op (.ld1 v_3) fun v_4 => .op (.fad 0 v_2) fun v_5 => .op (.st 1 v_5 v_4) fun v_6 => .op (.fad 1 v) fun v_7 => .op (.ld1 v_7) fun v_8 => .op (.fad 1 v_2) fun v_9 => .op (.st 1 v_9 v_8) fun v_10 => .op (.fad 2 v) fun v_11 => .op (.ld1 v_11) fun v_12 => .op (.fad 2 v_2) fun v_13 => .op (.st 1 v_13 v_12) fun v_14 => .op (.fad 3 v) fun v => .op (.ld1 v) fun v => .op (.call n_laws_toSpanS [v]) fun v => .op (.fad 3 v_2) fun v_15 => .op (.st 1 v_15 v) fun v => .op (.ldn 4 v_2) fun v => .op (.st 4 v_1 v) fun v => .fin [.cn 4 v_1]
theorem c_laws_toTrail (x0 : AV) {h : AH} {R : AV → AH → Prop} (g : (p_laws_toTrail x0).awp Try.prog h fun t vs h' => t = 1 ∧ ∃ v, vs = [v] ∧ R v h') : ACalls Try.prog n_laws_toTrail [x0] h R :=
  acalls_of follows Try.func27 (by kernel_rfl) (by kernel_rfl) [] (fun _ => []) (show trF Try.prog Try.f27 _ _ [x0] = p_laws_toTrail x0 by kernel_rfl) g
/- laws.eqTrail -/
def p_laws_eqTrail (x0 x1 : AV) : Prog := .op (.box x0) fun v => .op (.box x1) fun v_1 => .op (.fad 0 v) fun v_2 => .op (.ld1 v_2) fun v_3 => .op (.fad 0 v_1) fun v_4 => .op (.ld1 v_4) fun v_5 => .op (.bin 0 .neq v_3 v_5) fun v_6 => .ite v_6 (.fin [.val (AV.bool false)]) (.op (.fad 1 v) fun v_7 => .op (.ld1 v_7) fun v_8 => .op (.fad 1 v_1) fun v_9 => .op (.ld1 v_9) fun v_10 => .op (.bin 0 .neq v_8 v_10) fun v_11 => .ite v_11 (.fin [.val (AV.bool false)]) (.op (.fad 2 v) fun v_12 => .op (.ld1 v_12) fun v_13 => .op (.fad 2 v_1) fun v_14 => .op (.ld1 v_14) fun v_15 => .op (.bin 0 .neq v_13 v_15) fun v_16 => .ite v_16 (.fin [.val (AV.bool false)]) (.op (.fad 3 v) fun v => .op (.ld1 v) fun v => .op (.fad 3 v_1) fun v_17 => .op (.ld1 v_17) fun v_18 => .op (.call n_laws_eqSpanS [v, v_18]) fun v => .op (.una .not v) fun v => .ite v (.fin [.val (AV.bool false)]) (.fin [.val (AV.bool true)]))))
theorem c_laws_eqTrail (x0 x1 : AV) {h : AH} {R : AV → AH → Prop} (g : (p_laws_eqTrail x0 x1).awp Try.prog h fun t vs h' => t = 1 ∧ ∃ v, vs = [v] ∧ R v h') : ACalls Try.prog n_laws_eqTrail [x0, x1] h R :=
  acalls_of follows Try.func29 (by kernel_rfl) (by kernel_rfl) [] (fun _ => []) (show trF Try.prog Try.f29 _ _ [x0, x1] = p_laws_eqTrail x0 x1 by kernel_rfl) g
/- laws.szTrail -/
def p_laws_szTrail (x0 x1 : AV) : Prog := .op (.box x0) fun v => .op (.fad 3 v) fun v => .op (.ld1 v) fun v => .op (.call n_laws_szSpanS [v, x1]) fun v => .op (.bin 0 .lss v (AV.int .i64 0)) fun v_1 => .ite v_1 (.fin [.val (AV.int .i64 (-1))]) (.fin [.val v])
theorem c_laws_szTrail (x0 x1 : AV) {h : AH} {R : AV → AH → Prop} (g : (p_laws_szTrail x0 x1).awp Try.prog h fun t vs h' => t = 1 ∧ ∃ v, vs = [v] ∧ R v h') : ACalls Try.prog n_laws_szTrail [x0, x1] h R :=
  acalls_of follows Try.func25 (by kernel_rfl) (by kernel_rfl) [] (fun _ => []) (show trF Try.prog Try.f25 _ _ [x0, x1] = p_laws_szTrail x0 x1 by kernel_rfl) g
/- laws.toTrailS -/
def p_laws_toTrailS (x0 : AV) : Prog := .op (.len 0 x0) fun v => .op (.mksl 4 48 [AV.int .i64 0, AV.int .i64 0, AV.int .i64 0, AV.nils] v v) fun v => .loop [AV.int .i64 0] (fun vs => .op (.len 0 x0) fun v_1 => .op (.bin 0 .lss (g vs 0) v_1) fun v_2 => .ite v_2 (.op (.idx 4 x0 (g vs 0)) fun v_3 => .op (.ldn 4 v_3) fun v_4 => .op (.call n_laws_toTrail [v_4]) fun v_5 => .op (.idx 4 v (g vs 0)) fun v => .op (.st 4 v v_5) fun v => .op (.bin 0 .add (g vs 0) (AV.int .i64 1)) fun v => .leaf 0 [v]) (.leaf 2 [g vs 0])) fun t vs => tsel t 1 (.leaf 1 vs) (tsel t 2 (.fin [.val v]) .bad)
theorem c_laws_toTrailS (x0 : AV) {h : AH} {R : AV → AH → Prop} (g : (p_laws_toTrailS x0).awp Try.prog h fun t vs h' => t = 1 ∧ ∃ v, vs = [v] ∧ R v h') : ACalls Try.prog n_laws_toTrailS [x0] h R :=
  acalls_of follows Try.func62 (by kernel_rfl) (by kernel_rfl) [0, 3, 4] (fun _ => []) (show trF Try.prog Try.f62 _ _ [x0] = p_laws_toTrailS x0 by kernel_rfl) g
/- laws.eqTrailS -/
def p_laws_eqTrailS (x0 x1 : AV) : Prog := .op (.len 0 x0) fun v => .op (.len 0 x1) fun v_1 => .op (.bin 0 .neq v v_1) fun v => .ite v (.fin [.val (AV.bool false)]) (.loop [AV.int .i64 0] (fun vs => .op (.len 0 x0) fun v => .op (.bin 0 .lss (g vs 0) v) fun v => .ite v (.op (.idx 4 x0 (g vs 0)) fun v => .op (.ldn 4 v) fun v => .op (.idx 4 x1 (g vs 0)) fun v_2 => .op (.ldn 4 v_2) fun v_3 => .op (.call n_laws_eqTrail [v, v_3]) fun v => .op (.una .not v) fun v => .ite v (.fin [.val (AV.bool false)]) (.op (.bin 0 .add (g vs 0) (AV.int .i64 1)) fun v => .leaf 0 [v])) (.leaf 2 [g vs 0])) fun t vs => tsel t 1 (.leaf 1 vs) (tsel t 2 (.fin [.val (AV.bool true)]) .bad))
theorem c_laws_eqTrailS (x0 x1 : AV) {h : AH} {R : AV → AH → Prop} (g : (p_laws_eqTrailS x0 x1).awp Try.prog h fun t vs h' => t = 1 ∧ ∃ v, vs = [v] ∧ R v h') : ACalls Try.prog n_laws_eqTrailS [x0, x1] h R :=
  acalls_of follows Try.func64 (by kernel_rfl) (by kernel_rfl) [0, 1, 5] (fun r => if r = 6 then [(0, []), (1, []), (2, []), (3, []), (4, []), (5, []), (6, []), (7, []), (8, []), (9, [])] else []) (show trF Try.prog Try.f64 _ _ [x0, x1] = p_laws_eqTrailS x0 x1 by kernel_rfl) g
/- laws.szTrailS -/
def p_laws_szTrailS (x0 x1 : AV) : Prog := .op (.len 0 x0) fun v => .op (.bin 0 .sub x1 v) fun v => .op (.bin 0 .lss v (AV.int .i64 0)) fun v_1 => .ite v_1 (.fin [.val (AV.int .i64 (-1))]) (.loop [v, AV.int .i64 0] (fun vs => .op (.len 0 x0) fun v => .op (.bin 0 .lss (g vs 1) v) fun v => .ite v (.op (.idx 4 x0 (g vs 1)) fun v => .op (.ldn 4 v) fun v => .op (.call n_laws_szTrail [v, g vs 0]) fun v => .op (.bin 0 .lss v (AV.int .i64 0)) fun v_2 => .ite v_2 (.fin [.val (AV.int .i64 (-1))]) (.op (.bin 0 .add (g vs 1) (AV.int .i64 1)) fun v_3 => .leaf 0 [v, v_3])) (.leaf 2 [g vs 0, g vs 1])) fun t vs => tsel t 1 (.leaf 1 vs) (tsel t 2 (.fin [.val (g vs 0)]) .bad))
theorem c_laws_szTrailS (x0 x1 : AV) {h : AH} {R : AV → AH → Prop} (g : (p_laws_szTrailS x0 x1).awp Try.prog h fun t vs h' => t = 1 ∧ ∃ v, vs = [v] ∧ R v h') : ACalls Try.prog n_laws_szTrailS [x0, x1] h R :=
  acalls_of follows Try.func60 (by kernel_rfl) (by kernel_rfl) [0, 1, 5] (fun _ => []) (show trF Try.prog Try.f60 _ _ [x0, x1] = p_laws_szTrailS x0 x1 by kernel_rfl) g
end
theorem s_laws_toTrail (x : Trail) (hs : Sz.sz x ≤ 1048576) : CopyX Trail Try.prog n_laws_toTrail x := by
  rintro cs F h ⟨v0, rfl, r0⟩
  have hs : (x.spans.length + szs x.spans) ≤ 1048576 := hs
  refine c_laws_toTrail _ ?_
  unfold p_laws_toTrail
  (repeat' first|refine vs ?_|(refine br ?_ ?_<;>intro _<;>try(exfalso;first|omega|contradiction))|((with_reducible refine g_callf n_laws_toSpanS ?_);(refine aw_call (copy_r s_laws_toSpanS slr_auto om_auto) ?_; rintro _ _ ⟨e_, _, _, _⟩; have n_ := e_.1; (try simp only [push_n, upd_n] at n_)))|((with_reducible refine g_idx ?_);((first|refine ix ?_|refine ixi ?_|(refine ixg ?_;intro _ _)|(refine ixgi ?_;intro _ _));first|rintro _ _ _ _ _ ⟨rfl,rfl⟩ _|rintro _ _ _ _ _ ⟨_,rfl,_⟩ _|rintro _ _ _ _ _ ⟨_,_,_,_,rfl,rfl,_,_⟩ _|intro _ _ _ _ _ _ _))|(refine sx ?_;intro _ _)|((with_reducible refine g_awp ?_);simp only [g0,g1,g2]))
  exact ⟨rfl, _, rfl, ext_auto, _, _, rfl, ⟨_, rfl, slr_auto⟩, ol_auto⟩
theorem s_laws_eqTrail : EqC Trail Try.prog n_laws_eqTrail := by
  rintro x cs cs' F F' h ⟨v0, rfl, r0⟩ ⟨u0, rfl, q0⟩
  refine reader (c_laws_eqTrail _ _) (by simp only [old]) ?_
  unfold p_laws_eqTrail
  (repeat' first|refine vs ?_|(refine br ?_ ?_<;>intro _<;>try(exfalso;first|omega|contradiction))|((with_reducible refine g_callf n_laws_eqSpanS ?_);refine aw_rcall (s_laws_eqSpanS _ _ _ _ _ _ slr_auto slr_auto) ?_)|((with_reducible refine g_idx ?_);((first|refine ix ?_|refine ixi ?_|(refine ixg ?_;intro _ _)|(refine ixgi ?_;intro _ _));first|rintro _ _ _ _ _ ⟨rfl,rfl⟩ _|rintro _ _ _ _ _ ⟨_,rfl,_⟩ _|rintro _ _ _ _ _ ⟨_,_,_,_,rfl,rfl,_,_⟩ _|intro _ _ _ _ _ _ _))|(refine sx ?_;intro _ _)|((with_reducible refine g_awp ?_);simp only [g0,g1,g2]))
  exact pb rfl
theorem s_laws_szTrail : SzC Trail Try.prog n_laws_szTrail := by
  rintro x ok cs F b h ⟨v0, rfl, r0⟩ h0 h1
  obtain ⟨ok_id, ok_stamp, ok_first, ok_spans⟩ := ok
  have hS : Sz.sz x = (x.spans.length + szs x.spans) := rfl
  refine reader (c_laws_szTrail _ _) (by simp only [old]) ?_
  unfold p_laws_szTrail
  (repeat' first|refine vs ?_|(refine br ?_ ?_<;>intro _<;>try(exfalso;first|omega|contradiction))|((with_reducible refine g_callf n_laws_szSpanS ?_);(refine aw_sz (s_laws_szSpanS _ (by assumption) _ _ _ _ slr_auto om_auto om_auto) (fun _ => ?_) (fun _ => ?_)))|((with_reducible refine g_idx ?_);((first|refine ix ?_|refine ixi ?_|(refine ixg ?_;intro _ _)|(refine ixgi ?_;intro _ _));first|rintro _ _ _ _ _ ⟨rfl,rfl⟩ _|rintro _ _ _ _ _ ⟨_,rfl,_⟩ _|rintro _ _ _ _ _ ⟨_,_,_,_,rfl,rfl,_,_⟩ _|intro _ _ _ _ _ _ _))|(refine sx ?_;intro _ _)|((with_reducible refine g_awp ?_);simp only [g0,g1,g2]))
  all_goals (refine pi ?_; unfold szr; split <;> omega)
theorem s_laws_toTrailS (xs : List Trail) (hs : xs.length + szs xs ≤ 1048576) : CopyL Try.prog n_laws_toTrailS xs := copyL_of rfl rfl (by decide) hs (fun x hx => s_laws_toTrail x hx) (fun g => c_laws_toTrailS _ g)
theorem s_laws_eqTrailS : EqS Trail Try.prog n_laws_eqTrailS := fun xs v v' F F' h r r' => reader (c_laws_eqTrailS _ _) (by simp only [old]) (eqS_spec rfl s_laws_eqTrail r r')
theorem s_laws_szTrailS : SzL Trail Try.prog n_laws_szTrailS := fun xs ok v F b h r h0 h1 => reader (c_laws_szTrailS _ _) (by simp only [old]) (szS_spec rfl s_laws_szTrail ok r h0 h1)
end Go.Proofs.Ytienckhjfcplcaa
