
/- Attr: copies, comparisons, sizes. Written by mkl.py. -/
import Derived.Test.YtienckhjfcplcaaNm
import Derived.Test.YtienckhjfcplcaaAb36
set_option linter.unusedSimpArgs false
set_option linter.unusedVariables false
set_option maxHeartbeats 1000000
namespace Go.Proofs.Ytienckhjfcplcaa
open Go Go.Ab
section
/- laws.toAttr -/
def p_laws_toAttr (x0 : AV) : Prog := .op (.box x0) fun v => .op (.alloc [AV.str ⟨#[]⟩, AV.bool false, AV.int .i64 0, AV.str ⟨#[]⟩]) fun v_1 => .op (.alloc [AV.str ⟨#[]⟩, AV.bool false, AV.int .i64 0, AV.str ⟨#[]⟩]) fun v_2 => .op (.fad 0 v) fun v_3 => .op (.ld1 v_3) fun v_4 => .op (.fad 0 v_2) fun v_5 => .op (.st 1 v_5 v_4) fun v_6 => .op (.fad 1 v) fun v_7 => .op (.ld1 v_7) fun v_8 => .op (.fad 1 v_2) fun v_9 => .op (.st 1 v_9 v_8) fun v_10 => .op (.fad 2 v) fun v_11 => .op (.ld1 v_11) fun v_12 => .op (.fad 2 v_2) fun v_13 => .op (.st 1 v_13 v_12) fun v_14 => .op (.fad 3 v) fun v => .op (.ld1 v) fun v => .op (.fad 3 v_2) fun v_15 => .op (.st 1 v_15 v) fun v => .op (.ldn 4 v_2) fun v => .op (.st 4 v_1 v) fun v => .fin [.cn 4 v_1]
theorem c_laws_toAttr (x0 : AV) {h : AH} {R : AV → AH → Prop} (g : (p_laws_toAttr x0).awp Try.prog h fun t vs h' => t = 1 ∧ ∃ v, vs = [v] ∧ R v h') : ACalls Try.prog n_laws_toAttr [x0] h R :=
  acalls_of follows Try.func136 (by kernel_rfl) (by kernel_rfl) [] (fun _ => []) (show trF Try.prog Try.f136 _ _ [x0] = p_laws_toAttr x0 by kernel_rfl) g
/- laws.eqAttr -/
def p_laws_eqAttr (x0 x1 : AV) : Prog := .op (.box x0) fun v => .op (.box x1) fun v_1 => .op (.fad 0 v) fun v_2 => .op (.ld1 v_2) fun v_3 => .op (.fad 0 v_1) fun v_4 => .op (.ld1 v_4) fun v_5 => .op (.bin 1 .neq v_3 v_5) fun v_6 => .ite v_6 (.fin [.val (AV.bool false)]) (.op (.fad 1 v) fun v_7 => .op (.ld1 v_7) fun v_8 => .op (.fad 1 v_1) fun v_9 => .op (.ld1 v_9) fun v_10 => .op (.bin 2 .neq v_8 v_10) fun v_11 => .ite v_11 (.fin [.val (AV.bool false)]) (.op (.fad 2 v) fun v_12 => .op (.ld1 v_12) fun v_13 => .op (.fad 2 v_1) fun v_14 => .op (.ld1 v_14) fun v_15 => .op (.bin 0 .neq v_13 v_15) fun v_16 => .ite v_16 (.fin [.val (AV.bool false)]) (.op (.fad 3 v) fun v => .op (.ld1 v) fun v => .op (.fad 3 v_1) fun v_17 => .op (.ld1 v_17) fun v_18 => .op (.bin 1 .neq v v_18) fun v => .ite v (.fin [.val (AV.bool false)]) (.fin [.val (AV.bool true)]))))
theorem c_laws_eqAttr (x0 x1 : AV) {h : AH} {R : AV → AH → Prop} (g : (p_laws_eqAttr x0 x1).awp Try.prog h fun t vs h' => t = 1 ∧ ∃ v, vs = [v] ∧ R v h') : ACalls Try.prog n_laws_eqAttr [x0, x1] h R :=
  acalls_of follows Try.func138 (by kernel_rfl) (by kernel_rfl) [] (fun _ => []) (show trF Try.prog Try.f138 _ _ [x0, x1] = p_laws_eqAttr x0 x1 by kernel_rfl) g
/- laws.szAttr -/
def p_laws_szAttr (x0 x1 : AV) : Prog := .op (.box x0) fun v => .op (.fad 0 v) fun v_1 => .op (.ld1 v_1) fun v_2 => .op (.len 1 v_2) fun v_3 => .op (.bin 0 .sub x1 v_3) fun v_4 => .op (.bin 0 .lss v_4 (AV.int .i64 0)) fun v_5 => .ite v_5 (.fin [.val (AV.int .i64 (-1))]) (.op (.fad 3 v) fun v => .op (.ld1 v) fun v => .op (.len 1 v) fun v => .op (.bin 0 .sub v_4 v) fun v => .op (.bin 0 .lss v (AV.int .i64 0)) fun v_6 => .ite v_6 (.fin [.val (AV.int .i64 (-1))]) (.fin [.val v]))
theorem c_laws_szAttr (x0 x1 : AV) {h : AH} {R : AV → AH → Prop} (g : (p_laws_szAttr x0 x1).awp Try.prog h fun t vs h' => t = 1 ∧ ∃ v, vs = [v] ∧ R v h') : ACalls Try.prog n_laws_szAttr [x0, x1] h R :=
  acalls_of follows Try.func134 (by kernel_rfl) (by kernel_rfl) [] (fun _ => []) (show trF Try.prog Try.f134 _ _ [x0, x1] = p_laws_szAttr x0 x1 by kernel_rfl) g
/- laws.toAttrS -/
def p_laws_toAttrS (x0 : AV) : Prog := .op (.len 0 x0) fun v => .op (.mksl 4 48 [AV.str ⟨#[]⟩, AV.bool false, AV.int .i64 0, AV.str ⟨#[]⟩] v v) fun v => .loop [AV.int .i64 0] (fun vs => .op (.len 0 x0) fun v_1 => .op (.bin 0 .lss (g vs 0) v_1) fun v_2 => .ite v_2 (.op (.idx 4 x0 (g vs 0)) fun v_3 => .op (.ldn 4 v_3) fun v_4 => .op (.call n_laws_toAttr [v_4]) fun v_5 => .op (.idx 4 v (g vs 0)) fun v => .op (.st 4 v v_5) fun v => .op (.bin 0 .add (g vs 0) (AV.int .i64 1)) fun v => .leaf 0 [v]) (.leaf 2 [g vs 0])) fun t vs => tsel t 1 (.leaf 1 vs) (tsel t 2 (.fin [.val v]) .bad)
theorem c_laws_toAttrS (x0 : AV) {h : AH} {R : AV → AH → Prop} (g : (p_laws_toAttrS x0).awp Try.prog h fun t vs h' => t = 1 ∧ ∃ v, vs = [v] ∧ R v h') : ACalls Try.prog n_laws_toAttrS [x0] h R :=
  acalls_of follows Try.func93 (by kernel_rfl) (by kernel_rfl) [0, 3, 4] (fun _ => []) (show trF Try.prog Try.f93 _ _ [x0] = p_laws_toAttrS x0 by kernel_rfl) g
/- laws.eqAttrS -/
def p_laws_eqAttrS (x0 x1 : AV) : Prog := .op (.len 0 x0) fun v => .op (.len 0 x1) fun v_1 => .op (.bin 0 .neq v v_1) fun v => .ite v (.fin [.val (AV.bool false)]) (.loop [AV.int .i64 0] (fun vs => .op (.len 0 x0) fun v => .op (.bin 0 .lss (g vs 0) v) fun v => .ite v (.op (.idx 4 x0 (g vs 0)) fun v => .op (.ldn 4 v) fun v => .op (.idx 4 x1 (g vs 0)) fun v_2 => .op (.ldn 4 v_2) fun v_3 => .op (.call n_laws_eqAttr [v, v_3]) fun v => .op (.una .not v) fun v => .ite v (.fin [.val (AV.bool false)]) (.op (.bin 0 .add (g vs 0) (AV.int .i64 1)) fun v => .leaf 0 [v])) (.leaf 2 [g vs 0])) fun t vs => tsel t 1 (.leaf 1 vs) (tsel t 2 (.fin [.val (AV.bool true)]) .bad))
theorem c_laws_eqAttrS (x0 x1 : AV) {h : AH} {R : AV → AH → Prop} (g : (p_laws_eqAttrS x0 x1).awp Try.prog h fun t vs h' => t = 1 ∧ ∃ v, vs = [v] ∧ R v h') : ACalls Try.prog n_laws_eqAttrS [x0, x1] h R :=
  acalls_of follows Try.func95 (by kernel_rfl) (by kernel_rfl) [0, 1, 5] (fun r => if r = 6 then [(0, []), (1, []), (2, []), (3, []), (4, []), (5, []), (6, []), (7, []), (8, []), (9, [])] else []) (show trF Try.prog Try.f95 _ _ [x0, x1] = p_laws_eqAttrS x0 x1 by kernel_rfl) g
/- laws.szAttrS -/
def p_laws_szAttrS (x0 x1 : AV) : Prog := .op (.len 0 x0) fun v => .op (.bin 0 .sub x1 v) fun v => .op (.bin 0 .lss v (AV.int .i64 0)) fun v_1 => .ite v_1 (.fin [.val (AV.int .i64 (-1))]) (.loop [v, AV.int .i64 0] (fun vs => .op (.len 0 x0) fun v => .op (.bin 0 .lss (g vs 1) v) fun v => .ite v (.op (.idx 4 x0 (g vs 1)) fun v => .op (.ldn 4 v) fun v => .op (.call n_laws_szAttr [v, g vs 0]) fun v => .op (.bin 0 .lss v (AV.int .i64 0)) fun v_2 => .ite v_2 (.fin [.val (AV.int .i64 (-1))]) (.op (.bin 0 .add (g vs 1) (AV.int .i64 1)) fun v_3 => .leaf 0 [v, v_3])) (.leaf 2 [g vs 0, g vs 1])) fun t vs => tsel t 1 (.leaf 1 vs) (tsel t 2 (.fin [.val (g vs 0)]) .bad))
theorem c_laws_szAttrS (x0 x1 : AV) {h : AH} {R : AV → AH → Prop} (g : (p_laws_szAttrS x0 x1).awp Try.prog h fun t vs h' => t = 1 ∧ ∃ v, vs = [v] ∧ R v h') : ACalls Try.prog n_laws_szAttrS [x0, x1] h R :=
  acalls_of follows Try.func91 (by kernel_rfl) (by kernel_rfl) [0, 1, 5] (fun _ => []) (show trF Try.prog Try.f91 _ _ [x0, x1] = p_laws_szAttrS x0 x1 by kernel_rfl) g
end
theorem s_laws_toAttr (x : Attr) (hs : Sz.sz x ≤ 1048576) : CopyX Attr Try.prog n_laws_toAttr x := by
  rintro cs F h ⟨rfl, rfl⟩
  have hs : x.key.size + x.text.size ≤ 1048576 := hs
  refine c_laws_toAttr _ ?_
  unfold p_laws_toAttr
  (repeat' first|refine vs ?_|(refine br ?_ ?_<;>intro _<;>try(exfalso;first|omega|contradiction))|((with_reducible refine g_idx ?_);((first|refine ix ?_|refine ixi ?_|(refine ixg ?_;intro _ _)|(refine ixgi ?_;intro _ _));first|rintro _ _ _ _ _ ⟨rfl,rfl⟩ _|rintro _ _ _ _ _ ⟨_,rfl,_⟩ _|rintro _ _ _ _ _ ⟨_,_,_,_,rfl,rfl,_,_⟩ _|intro _ _ _ _ _ _ _))|(refine sx ?_;intro _ _)|((with_reducible refine g_awp ?_);simp only [g0,g1,g2]))
  exact ⟨rfl, _, rfl, ext_auto, _, _, rfl, ⟨rfl, rfl⟩, Own.nil⟩
theorem s_laws_eqAttr : EqC Attr Try.prog n_laws_eqAttr := by
  rintro x cs cs' F F' h ⟨rfl, rfl⟩ ⟨rfl, rfl⟩
  refine reader (c_laws_eqAttr _ _) (by simp only [old]) ?_
  unfold p_laws_eqAttr
  (repeat' first|refine vs ?_|(refine br ?_ ?_<;>intro _<;>try(exfalso;first|omega|contradiction))|((with_reducible refine g_idx ?_);((first|refine ix ?_|refine ixi ?_|(refine ixg ?_;intro _ _)|(refine ixgi ?_;intro _ _));first|rintro _ _ _ _ _ ⟨rfl,rfl⟩ _|rintro _ _ _ _ _ ⟨_,rfl,_⟩ _|rintro _ _ _ _ _ ⟨_,_,_,_,rfl,rfl,_,_⟩ _|intro _ _ _ _ _ _ _))|(refine sx ?_;intro _ _)|((with_reducible refine g_awp ?_);simp only [g0,g1,g2]))
  exact pb rfl
theorem s_laws_szAttr : SzC Attr Try.prog n_laws_szAttr := by
  rintro x ok cs F b h ⟨rfl, rfl⟩ h0 h1
  obtain ⟨ok_key, ok_n, ok_text⟩ := ok
  have ok_key : x.key.size ≤ 9223372036854775807 := ok_key
  have ok_text : x.text.size ≤ 9223372036854775807 := ok_text
  have hS : Sz.sz x = x.key.size + x.text.size := rfl
  refine reader (c_laws_szAttr _ _) (by simp only [old]) ?_
  unfold p_laws_szAttr
  (repeat' first|refine vs ?_|(refine br ?_ ?_<;>intro _<;>try(exfalso;first|omega|contradiction))|((with_reducible refine g_idx ?_);((first|refine ix ?_|refine ixi ?_|(refine ixg ?_;intro _ _)|(refine ixgi ?_;intro _ _));first|rintro _ _ _ _ _ ⟨rfl,rfl⟩ _|rintro _ _ _ _ _ ⟨_,rfl,_⟩ _|rintro _ _ _ _ _ ⟨_,_,_,_,rfl,rfl,_,_⟩ _|intro _ _ _ _ _ _ _))|(refine sx ?_;intro _ _)|((with_reducible refine g_awp ?_);simp only [g0,g1,g2]))
  all_goals (refine pi ?_; unfold szr; split <;> omega)
theorem s_laws_toAttrS (xs : List Attr) (hs : xs.length + szs xs ≤ 1048576) : CopyL Try.prog n_laws_toAttrS xs := copyL_of rfl rfl (by decide) hs (fun x hx => s_laws_toAttr x hx) (fun g => c_laws_toAttrS _ g)
theorem s_laws_eqAttrS : EqS Attr Try.prog n_laws_eqAttrS := fun xs v v' F F' h r r' => reader (c_laws_eqAttrS _ _) (by simp only [old]) (eqS_spec rfl s_laws_eqAttr r r')
theorem s_laws_szAttrS : SzL Attr Try.prog n_laws_szAttrS := fun xs ok v F b h r h0 h1 => reader (c_laws_szAttrS _ _) (by simp only [old]) (szS_spec rfl s_laws_szAttr ok r h0 h1)
end Go.Proofs.Ytienckhjfcplcaa
