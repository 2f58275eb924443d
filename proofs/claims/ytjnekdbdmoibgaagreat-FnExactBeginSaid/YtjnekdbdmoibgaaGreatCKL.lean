import Derived.Test.YtjnekdbdmoibgaaGreatCNm
import Derived.Test.YtjnekdbdmoibgaaGreatCK4
import Derived.Test.YtjnekdbdmoibgaaGreatCKW1
section
/- Attr: copies, comparisons, sizes. Written by mkl.py. -/
set_option linter.unusedSimpArgs false
set_option linter.unusedVariables false
set_option maxHeartbeats 1000000
namespace Go.Proofs.YtjnekdbdmoibgaaGreat
open Go Go.Ab
section
/- laws.toAttr -/
def p_laws_toAttr (x0 : AV) : Prog := .op (.box x0) fun v1 => .op (.alloc [AV.str ⟨#[]⟩, AV.bool false, AV.int .i64 0, AV.str ⟨#[]⟩]) fun v2 => .op (.alloc [AV.str ⟨#[]⟩, AV.bool false, AV.int .i64 0, AV.str ⟨#[]⟩]) fun v3 => .op (.fad 0 v1) fun v4 => .op (.ld1 v4) fun v5 => .op (.fad 0 v3) fun v6 => .op (.st 1 v6 v5) fun v7 => .op (.fad 1 v1) fun v8 => .op (.ld1 v8) fun v9 => .op (.fad 1 v3) fun v10 => .op (.st 1 v10 v9) fun v11 => .op (.fad 2 v1) fun v12 => .op (.ld1 v12) fun v13 => .op (.fad 2 v3) fun v14 => .op (.st 1 v14 v13) fun v15 => .op (.fad 3 v1) fun v16 => .op (.ld1 v16) fun v17 => .op (.fad 3 v3) fun v18 => .op (.st 1 v18 v17) fun v19 => .op (.ldn 4 v3) fun v20 => .op (.st 4 v2 v20) fun v21 => .fin [.cn 4 v2]
theorem c_laws_toAttr (x0 : AV) : CC Tryz.prog n_laws_toAttr [x0] (p_laws_toAttr x0) := cc Tryz.func179 [] (fun _ => []) (by kernel_rfl)
/- laws.eqAttr -/
def p_laws_eqAttr (x0 x1 : AV) : Prog := .op (.box x0) fun v1 => .op (.box x1) fun v2 => .op (.fad 0 v1) fun v3 => .op (.ld1 v3) fun v4 => .op (.fad 0 v2) fun v5 => .op (.ld1 v5) fun v6 => .op (.bin 1 .neq v4 v6) fun v7 => .ite v7 (.fin [.val (AV.bool false)]) (.op (.fad 1 v1) fun v8 => .op (.ld1 v8) fun v9 => .op (.fad 1 v2) fun v10 => .op (.ld1 v10) fun v11 => .op (.bin 2 .neq v9 v11) fun v12 => .ite v12 (.fin [.val (AV.bool false)]) (.op (.fad 2 v1) fun v13 => .op (.ld1 v13) fun v14 => .op (.fad 2 v2) fun v15 => .op (.ld1 v15) fun v16 => .op (.bin 0 .neq v14 v16) fun v17 => .ite v17 (.fin [.val (AV.bool false)]) (.op (.fad 3 v1) fun v18 => .op (.ld1 v18) fun v19 => .op (.fad 3 v2) fun v20 => .op (.ld1 v20) fun v21 => .op (.bin 1 .neq v19 v21) fun v22 => .ite v22 (.fin [.val (AV.bool false)]) (.fin [.val (AV.bool true)]))))
theorem c_laws_eqAttr (x0 x1 : AV) : CC Tryz.prog n_laws_eqAttr [x0, x1] (p_laws_eqAttr x0 x1) := cc Tryz.func181 [] (fun _ => []) (by kernel_rfl)
/- laws.szAttr -/
def p_laws_szAttr (x0 x1 : AV) : Prog := .op (.box x0) fun v1 => .op (.fad 0 v1) fun v2 => .op (.ld1 v2) fun v3 => .op (.len 1 v3) fun v4 => .op (.bin 0 .sub x1 v4) fun v5 => .op (.bin 0 .lss v5 (AV.int .i64 0)) fun v6 => .ite v6 (.fin [.val (AV.int .i64 (-1))]) (.op (.fad 3 v1) fun v7 => .op (.ld1 v7) fun v8 => .op (.len 1 v8) fun v9 => .op (.bin 0 .sub v5 v9) fun v10 => .op (.bin 0 .lss v10 (AV.int .i64 0)) fun v11 => .ite v11 (.fin [.val (AV.int .i64 (-1))]) (.fin [.val v10]))
theorem c_laws_szAttr (x0 x1 : AV) : CC Tryz.prog n_laws_szAttr [x0, x1] (p_laws_szAttr x0 x1) := cc Tryz.func176 [] (fun _ => []) (by kernel_rfl)
/- laws.toAttrS -/
def p_laws_toAttrS (x0 : AV) : Prog := .op (.len 0 x0) fun v1 => .op (.mksl 4 48 [AV.str ⟨#[]⟩, AV.bool false, AV.int .i64 0, AV.str ⟨#[]⟩] v1 v1) fun v2 => .loop [AV.int .i64 0] (fun vs3 => .op (.len 0 x0) fun v5 => .op (.bin 0 .lss (g vs3 0) v5) fun v6 => .ite v6 (.op (.idx 4 x0 (g vs3 0)) fun v7 => .op (.ldn 4 v7) fun v8 => .op (.call n_laws_toAttr [v8]) fun v9 => .op (.idx 4 v2 (g vs3 0)) fun v10 => .op (.st 4 v10 v9) fun v11 => .op (.bin 0 .add (g vs3 0) (AV.int .i64 1)) fun v12 => .leaf 0 [v12]) (.leaf 2 [g vs3 0])) fun t4 vs3 => tsel t4 1 (.leaf 1 vs3) (tsel t4 2 (.fin [.val v2]) .bad)
theorem c_laws_toAttrS (x0 : AV) : CC Tryz.prog n_laws_toAttrS [x0] (p_laws_toAttrS x0) := cc Tryz.func96 [0, 3, 4] (fun _ => []) (by kernel_rfl)
/- laws.eqAttrS -/
def p_laws_eqAttrS (x0 x1 : AV) : Prog := .op (.len 0 x0) fun v1 => .op (.len 0 x1) fun v2 => .op (.bin 0 .neq v1 v2) fun v3 => .ite v3 (.fin [.val (AV.bool false)]) (.loop [AV.int .i64 0] (fun vs4 => .op (.len 0 x0) fun v6 => .op (.bin 0 .lss (g vs4 0) v6) fun v7 => .ite v7 (.op (.idx 4 x0 (g vs4 0)) fun v8 => .op (.ldn 4 v8) fun v9 => .op (.idx 4 x1 (g vs4 0)) fun v10 => .op (.ldn 4 v10) fun v11 => .op (.call n_laws_eqAttr [v9, v11]) fun v12 => .op (.una .not v12) fun v13 => .ite v13 (.fin [.val (AV.bool false)]) (.op (.bin 0 .add (g vs4 0) (AV.int .i64 1)) fun v14 => .leaf 0 [v14])) (.leaf 2 [g vs4 0])) fun t5 vs4 => tsel t5 1 (.leaf 1 vs4) (tsel t5 2 (.fin [.val (AV.bool true)]) .bad))
theorem c_laws_eqAttrS (x0 x1 : AV) : CC Tryz.prog n_laws_eqAttrS [x0, x1] (p_laws_eqAttrS x0 x1) := cc Tryz.func99 [0, 1, 5] (fun r => if r = 6 then [(0, []), (1, []), (2, []), (3, []), (4, []), (5, []), (6, []), (7, []), (8, []), (9, [])] else []) (by kernel_rfl)
/- laws.szAttrS -/
def p_laws_szAttrS (x0 x1 : AV) : Prog := .op (.len 0 x0) fun v1 => .op (.bin 0 .sub x1 v1) fun v2 => .op (.bin 0 .lss v2 (AV.int .i64 0)) fun v3 => .ite v3 (.fin [.val (AV.int .i64 (-1))]) (.loop [v2, AV.int .i64 0] (fun vs4 => .op (.len 0 x0) fun v6 => .op (.bin 0 .lss (g vs4 1) v6) fun v7 => .ite v7 (.op (.idx 4 x0 (g vs4 1)) fun v8 => .op (.ldn 4 v8) fun v9 => .op (.call n_laws_szAttr [v9, g vs4 0]) fun v10 => .op (.bin 0 .lss v10 (AV.int .i64 0)) fun v11 => .ite v11 (.fin [.val (AV.int .i64 (-1))]) (.op (.bin 0 .add (g vs4 1) (AV.int .i64 1)) fun v12 => .leaf 0 [v10, v12])) (.leaf 2 [g vs4 0, g vs4 1])) fun t5 vs4 => tsel t5 1 (.leaf 1 vs4) (tsel t5 2 (.fin [.val (g vs4 0)]) .bad))
theorem c_laws_szAttrS (x0 x1 : AV) : CC Tryz.prog n_laws_szAttrS [x0, x1] (p_laws_szAttrS x0 x1) := cc Tryz.func94 [0, 1, 5] (fun _ => []) (by kernel_rfl)
end
theorem s_laws_toAttr (x : Attr) (hs : Sz.sz x ≤ 1048576) : CopyX Attr Tryz.prog n_laws_toAttr x := by
  rintro cs F h ⟨rfl, rfl⟩
  have hs : x.key.size + x.text.size ≤ 1048576 := hs
  refine c_laws_toAttr _ ?_
  unfold p_laws_toAttr
  (repeat' first|refine vs ?_|(refine br ?_ ?_<;>intro _<;>try(exfalso;first|omega|contradiction))|((with_reducible refine g_idx ?_);((first|refine ix ?_|refine ixi ?_|(refine ixg ?_;intro _ _)|(refine ixgi ?_;intro _ _));first|rintro _ _ _ _ _ ⟨rfl,rfl⟩ _|rintro _ _ _ _ _ ⟨_,rfl,_⟩ _|rintro _ _ _ _ _ ⟨_,_,_,_,rfl,rfl,_,_⟩ _|intro _ _ _ _ _ _ _))|(refine sx ?_;intro _ _)|((with_reducible refine g_awp ?_);simp only [g0,g1,g2]))
  exact ⟨rfl, _, rfl, ext_auto, _, _, rfl, ⟨rfl, rfl⟩, Own.nil⟩
theorem s_laws_eqAttr : EqC Attr Tryz.prog n_laws_eqAttr := by
  rintro x cs cs' F F' h ⟨rfl, rfl⟩ ⟨rfl, rfl⟩
  refine reader (c_laws_eqAttr _ _) (by simp only [old]) ?_
  unfold p_laws_eqAttr
  (repeat' first|refine vs ?_|(refine br ?_ ?_<;>intro _<;>try(exfalso;first|omega|contradiction))|((with_reducible refine g_idx ?_);((first|refine ix ?_|refine ixi ?_|(refine ixg ?_;intro _ _)|(refine ixgi ?_;intro _ _));first|rintro _ _ _ _ _ ⟨rfl,rfl⟩ _|rintro _ _ _ _ _ ⟨_,rfl,_⟩ _|rintro _ _ _ _ _ ⟨_,_,_,_,rfl,rfl,_,_⟩ _|intro _ _ _ _ _ _ _))|(refine sx ?_;intro _ _)|((with_reducible refine g_awp ?_);simp only [g0,g1,g2]))
  exact pb rfl
theorem s_laws_szAttr : SzC Attr Tryz.prog n_laws_szAttr := by
  rintro x ok cs F b h ⟨rfl, rfl⟩ h0 h1
  obtain ⟨ok_key, ok_n, ok_text⟩ := ok
  have ok_key : x.key.size ≤ 9223372036854775807 := ok_key
  have ok_text : x.text.size ≤ 9223372036854775807 := ok_text
  have hS : Sz.sz x = x.key.size + x.text.size := rfl
  refine reader (c_laws_szAttr _ _) (by simp only [old]) ?_
  unfold p_laws_szAttr
  (repeat' first|refine vs ?_|(refine br ?_ ?_<;>intro _<;>try(exfalso;first|omega|contradiction))|((with_reducible refine g_idx ?_);((first|refine ix ?_|refine ixi ?_|(refine ixg ?_;intro _ _)|(refine ixgi ?_;intro _ _));first|rintro _ _ _ _ _ ⟨rfl,rfl⟩ _|rintro _ _ _ _ _ ⟨_,rfl,_⟩ _|rintro _ _ _ _ _ ⟨_,_,_,_,rfl,rfl,_,_⟩ _|intro _ _ _ _ _ _ _))|(refine sx ?_;intro _ _)|((with_reducible refine g_awp ?_);simp only [g0,g1,g2]))
  all_goals (refine pi ?_; unfold szr; split <;> omega)
theorem s_laws_toAttrS (xs : List Attr) (hs : xs.length + szs xs ≤ 1048576) : CopyL Tryz.prog n_laws_toAttrS xs := copyL_of rfl rfl (by decide) hs (fun x hx => s_laws_toAttr x hx) (fun g => c_laws_toAttrS _ g)
theorem s_laws_eqAttrS : EqS Attr Tryz.prog n_laws_eqAttrS := fun xs v v' F F' h r r' => reader (c_laws_eqAttrS _ _) (by simp only [old]) (eqS_spec rfl s_laws_eqAttr r r')
theorem s_laws_szAttrS : SzL Attr Tryz.prog n_laws_szAttrS := fun xs ok v F b h r h0 h1 => reader (c_laws_szAttrS _ _) (by simp only [old]) (szS_spec rfl s_laws_szAttr ok r h0 h1)
end Go.Proofs.YtjnekdbdmoibgaaGreat
end
section
/- Span: copies, comparisons, sizes. Written by mkl.py. -/
set_option linter.unusedSimpArgs false
set_option linter.unusedVariables false
set_option maxHeartbeats 1000000
namespace Go.Proofs.YtjnekdbdmoibgaaGreat
open Go Go.Ab
section
/- laws.toSpan -/
def p_laws_toSpan (x0 : AV) : Prog := .op (.box x0) fun v1 => .op (.alloc z6_822) fun v2 => .op (.alloc z6_822) fun v3 => .op (.fad 0 v1) fun v4 => .op (.ld1 v4) fun v5 => .op (.fad 0 v3) fun v6 => .op (.st 1 v6 v5) fun v7 => .op (.fad 1 v1) fun v8 => .op (.ld1 v8) fun v9 => .op (.fad 1 v3) fun v10 => .op (.st 1 v10 v9) fun v11 => .op (.fad 2 v1) fun v12 => .op (.ld1 v12) fun v13 => .op (.fad 2 v3) fun v14 => .op (.st 1 v14 v13) fun v15 => .op (.fad 3 v1) fun v16 => .op (.ld1 v16) fun v17 => .op (.fad 3 v3) fun v18 => .op (.st 1 v18 v17) fun v19 => .op (.fad 4 v1) fun v20 => .op (.ld1 v20) fun v21 => .op (.fad 4 v3) fun v22 => .op (.st 1 v22 v21) fun v23 => .op (.fad 5 v1) fun v24 => .op (.ld1 v24) fun v25 => .op (.call n_laws_toAttrS [v25]) fun v26 => .op (.fad 5 v3) fun v27 => .op (.st 1 v27 v26) fun v28 => .op (.ldn 6 v3) fun v29 => .op (.st 6 v2 v29) fun v30 => .fin [.cn 6 v2]
theorem c_laws_toSpan (x0 : AV) : CC Tryz.prog n_laws_toSpan [x0] (p_laws_toSpan x0) := cc Tryz.func29 [] (fun _ => []) (by kernel_rfl)
/- laws.eqSpan -/
def p_laws_eqSpan (x0 x1 : AV) : Prog := .op (.box x0) fun v1 => .op (.box x1) fun v2 => .op (.fad 0 v1) fun v3 => .op (.ld1 v3) fun v4 => .op (.fad 0 v2) fun v5 => .op (.ld1 v5) fun v6 => .op (.bin 0 .neq v4 v6) fun v7 => .ite v7 (.fin [.val (AV.bool false)]) (.op (.fad 1 v1) fun v8 => .op (.ld1 v8) fun v9 => .op (.fad 1 v2) fun v10 => .op (.ld1 v10) fun v11 => .op (.bin 0 .neq v9 v11) fun v12 => .ite v12 (.fin [.val (AV.bool false)]) (.op (.fad 2 v1) fun v13 => .op (.ld1 v13) fun v14 => .op (.fad 2 v2) fun v15 => .op (.ld1 v15) fun v16 => .op (.bin 0 .neq v14 v16) fun v17 => .ite v17 (.fin [.val (AV.bool false)]) (.op (.fad 3 v1) fun v18 => .op (.ld1 v18) fun v19 => .op (.fad 3 v2) fun v20 => .op (.ld1 v20) fun v21 => .op (.bin 0 .neq v19 v21) fun v22 => .ite v22 (.fin [.val (AV.bool false)]) (.op (.fad 4 v1) fun v23 => .op (.ld1 v23) fun v24 => .op (.fad 4 v2) fun v25 => .op (.ld1 v25) fun v26 => .op (.bin 2 .neq v24 v26) fun v27 => .ite v27 (.fin [.val (AV.bool false)]) (.op (.fad 5 v1) fun v28 => .op (.ld1 v28) fun v29 => .op (.fad 5 v2) fun v30 => .op (.ld1 v30) fun v31 => .op (.call n_laws_eqAttrS [v29, v31]) fun v32 => .op (.una .not v32) fun v33 => .ite v33 (.fin [.val (AV.bool false)]) (.fin [.val (AV.bool true)]))))))
theorem c_laws_eqSpan (x0 x1 : AV) : CC Tryz.prog n_laws_eqSpan [x0, x1] (p_laws_eqSpan x0 x1) := cc Tryz.func31 [] (fun _ => []) (by kernel_rfl)
/- laws.szSpan -/
def p_laws_szSpan (x0 x1 : AV) : Prog := .op (.box x0) fun v1 => .op (.fad 5 v1) fun v2 => .op (.ld1 v2) fun v3 => .op (.call n_laws_szAttrS [v3, x1]) fun v4 => .op (.bin 0 .lss v4 (AV.int .i64 0)) fun v5 => .ite v5 (.fin [.val (AV.int .i64 (-1))]) (.fin [.val v4])
theorem c_laws_szSpan (x0 x1 : AV) : CC Tryz.prog n_laws_szSpan [x0, x1] (p_laws_szSpan x0 x1) := cc Tryz.func27 [] (fun _ => []) (by kernel_rfl)
/- laws.toSpanS -/
def p_laws_toSpanS (x0 : AV) : Prog := .op (.len 0 x0) fun v1 => .op (.mksl 6 64 z6_822 v1 v1) fun v2 => .loop [AV.int .i64 0] (fun vs3 => .op (.len 0 x0) fun v5 => .op (.bin 0 .lss (g vs3 0) v5) fun v6 => .ite v6 (.op (.idx 6 x0 (g vs3 0)) fun v7 => .op (.ldn 6 v7) fun v8 => .op (.call n_laws_toSpan [v8]) fun v9 => .op (.idx 6 v2 (g vs3 0)) fun v10 => .op (.st 6 v10 v9) fun v11 => .op (.bin 0 .add (g vs3 0) (AV.int .i64 1)) fun v12 => .leaf 0 [v12]) (.leaf 2 [g vs3 0])) fun t4 vs3 => tsel t4 1 (.leaf 1 vs3) (tsel t4 2 (.fin [.val v2]) .bad)
theorem c_laws_toSpanS (x0 : AV) : CC Tryz.prog n_laws_toSpanS [x0] (p_laws_toSpanS x0) := cc Tryz.func330 [0, 3, 4] (fun _ => []) (by kernel_rfl)
/- laws.eqSpanS -/
def p_laws_eqSpanS (x0 x1 : AV) : Prog := .op (.len 0 x0) fun v1 => .op (.len 0 x1) fun v2 => .op (.bin 0 .neq v1 v2) fun v3 => .ite v3 (.fin [.val (AV.bool false)]) (.loop [AV.int .i64 0] (fun vs4 => .op (.len 0 x0) fun v6 => .op (.bin 0 .lss (g vs4 0) v6) fun v7 => .ite v7 (.op (.idx 6 x0 (g vs4 0)) fun v8 => .op (.ldn 6 v8) fun v9 => .op (.idx 6 x1 (g vs4 0)) fun v10 => .op (.ldn 6 v10) fun v11 => .op (.call n_laws_eqSpan [v9, v11]) fun v12 => .op (.una .not v12) fun v13 => .ite v13 (.fin [.val (AV.bool false)]) (.op (.bin 0 .add (g vs4 0) (AV.int .i64 1)) fun v14 => .leaf 0 [v14])) (.leaf 2 [g vs4 0])) fun t5 vs4 => tsel t5 1 (.leaf 1 vs4) (tsel t5 2 (.fin [.val (AV.bool true)]) .bad))
theorem c_laws_eqSpanS (x0 x1 : AV) : CC Tryz.prog n_laws_eqSpanS [x0, x1] (p_laws_eqSpanS x0 x1) := cc Tryz.func339 [0, 1, 5] (fun r => if r = 6 then [(0, []), (1, []), (2, []), (3, []), (4, []), (5, []), (6, []), (7, []), (8, []), (9, [])] else []) (by kernel_rfl)
/- laws.szSpanS -/
def p_laws_szSpanS (x0 x1 : AV) : Prog := .op (.len 0 x0) fun v1 => .op (.bin 0 .sub x1 v1) fun v2 => .op (.bin 0 .lss v2 (AV.int .i64 0)) fun v3 => .ite v3 (.fin [.val (AV.int .i64 (-1))]) (.loop [v2, AV.int .i64 0] (fun vs4 => .op (.len 0 x0) fun v6 => .op (.bin 0 .lss (g vs4 1) v6) fun v7 => .ite v7 (.op (.idx 6 x0 (g vs4 1)) fun v8 => .op (.ldn 6 v8) fun v9 => .op (.call n_laws_szSpan [v9, g vs4 0]) fun v10 => .op (.bin 0 .lss v10 (AV.int .i64 0)) fun v11 => .ite v11 (.fin [.val (AV.int .i64 (-1))]) (.op (.bin 0 .add (g vs4 1) (AV.int .i64 1)) fun v12 => .leaf 0 [v10, v12])) (.leaf 2 [g vs4 0, g vs4 1])) fun t5 vs4 => tsel t5 1 (.leaf 1 vs4) (tsel t5 2 (.fin [.val (g vs4 0)]) .bad))
theorem c_laws_szSpanS (x0 x1 : AV) : CC Tryz.prog n_laws_szSpanS [x0, x1] (p_laws_szSpanS x0 x1) := cc Tryz.func323 [0, 1, 5] (fun _ => []) (by kernel_rfl)
end
theorem s_laws_toSpan (x : Span) (hs : Sz.sz x ≤ 1048576) : CopyX Span Tryz.prog n_laws_toSpan x := by
  rintro cs F h ⟨v0, rfl, r0⟩
  have hs : (x.attrs.length + szs x.attrs) ≤ 1048576 := hs
  refine c_laws_toSpan _ ?_
  unfold p_laws_toSpan
  (repeat' first|refine vs ?_|(refine br ?_ ?_<;>intro _<;>try(exfalso;first|omega|contradiction))|((with_reducible refine g_callf n_laws_toAttrS ?_);(refine aw_call (copy_r s_laws_toAttrS slr_auto om_auto) ?_; rintro _ _ ⟨e_, _, _, _⟩; have n_ := e_.1; (try simp only [push_n, upd_n] at n_)))|((with_reducible refine g_idx ?_);((first|refine ix ?_|refine ixi ?_|(refine ixg ?_;intro _ _)|(refine ixgi ?_;intro _ _));first|rintro _ _ _ _ _ ⟨rfl,rfl⟩ _|rintro _ _ _ _ _ ⟨_,rfl,_⟩ _|rintro _ _ _ _ _ ⟨_,_,_,_,rfl,rfl,_,_⟩ _|intro _ _ _ _ _ _ _))|(refine sx ?_;intro _ _)|((with_reducible refine g_awp ?_);simp only [g0,g1,g2]))
  exact ⟨rfl, _, rfl, ext_auto, _, _, rfl, ⟨_, rfl, slr_auto⟩, ol_auto⟩
theorem s_laws_eqSpan : EqC Span Tryz.prog n_laws_eqSpan := by
  rintro x cs cs' F F' h ⟨v0, rfl, r0⟩ ⟨u0, rfl, q0⟩
  refine reader (c_laws_eqSpan _ _) (by simp only [old]) ?_
  unfold p_laws_eqSpan
  (repeat' first|refine vs ?_|(refine br ?_ ?_<;>intro _<;>try(exfalso;first|omega|contradiction))|((with_reducible refine g_callf n_laws_eqAttrS ?_);refine aw_rcall (s_laws_eqAttrS _ _ _ _ _ _ slr_auto slr_auto) ?_)|((with_reducible refine g_idx ?_);((first|refine ix ?_|refine ixi ?_|(refine ixg ?_;intro _ _)|(refine ixgi ?_;intro _ _));first|rintro _ _ _ _ _ ⟨rfl,rfl⟩ _|rintro _ _ _ _ _ ⟨_,rfl,_⟩ _|rintro _ _ _ _ _ ⟨_,_,_,_,rfl,rfl,_,_⟩ _|intro _ _ _ _ _ _ _))|(refine sx ?_;intro _ _)|((with_reducible refine g_awp ?_);simp only [g0,g1,g2]))
  exact pb rfl
theorem s_laws_szSpan : SzC Span Tryz.prog n_laws_szSpan := by
  rintro x ok cs F b h ⟨v0, rfl, r0⟩ h0 h1
  obtain ⟨ok_trace, ok_id, ok_start, ok_fin, ok_attrs⟩ := ok
  have hS : Sz.sz x = (x.attrs.length + szs x.attrs) := rfl
  refine reader (c_laws_szSpan _ _) (by simp only [old]) ?_
  unfold p_laws_szSpan
  (repeat' first|refine vs ?_|(refine br ?_ ?_<;>intro _<;>try(exfalso;first|omega|contradiction))|((with_reducible refine g_callf n_laws_szAttrS ?_);(refine aw_sz (szl s_laws_szAttrS slr_auto (by assumption) om_auto om_auto) (fun _ => ?_) (fun _ => ?_)))|((with_reducible refine g_idx ?_);((first|refine ix ?_|refine ixi ?_|(refine ixg ?_;intro _ _)|(refine ixgi ?_;intro _ _));first|rintro _ _ _ _ _ ⟨rfl,rfl⟩ _|rintro _ _ _ _ _ ⟨_,rfl,_⟩ _|rintro _ _ _ _ _ ⟨_,_,_,_,rfl,rfl,_,_⟩ _|intro _ _ _ _ _ _ _))|(refine sx ?_;intro _ _)|((with_reducible refine g_awp ?_);simp only [g0,g1,g2]))
  all_goals (refine pi ?_; unfold szr; split <;> omega)
theorem s_laws_toSpanS (xs : List Span) (hs : xs.length + szs xs ≤ 1048576) : CopyL Tryz.prog n_laws_toSpanS xs := copyL_of rfl rfl (by decide) hs (fun x hx => s_laws_toSpan x hx) (fun g => c_laws_toSpanS _ g)
theorem s_laws_eqSpanS : EqS Span Tryz.prog n_laws_eqSpanS := fun xs v v' F F' h r r' => reader (c_laws_eqSpanS _ _) (by simp only [old]) (eqS_spec rfl s_laws_eqSpan r r')
theorem s_laws_szSpanS : SzL Span Tryz.prog n_laws_szSpanS := fun xs ok v F b h r h0 h1 => reader (c_laws_szSpanS _ _) (by simp only [old]) (szS_spec rfl s_laws_szSpan ok r h0 h1)
end Go.Proofs.YtjnekdbdmoibgaaGreat
end
section
/- Trail: copies, comparisons, sizes. Written by mkl.py. -/
set_option linter.unusedSimpArgs false
set_option linter.unusedVariables false
set_option maxHeartbeats 1000000
namespace Go.Proofs.YtjnekdbdmoibgaaGreat
open Go Go.Ab
section
/- laws.toTrail -/
def p_laws_toTrail (x0 : AV) : Prog := .op (.box x0) fun v1 => .op (.alloc [AV.int .i64 0, AV.int .i64 0, AV.int .i64 0, AV.nils]) fun v2 => .op (.alloc [AV.int .i64 0, AV.int .i64 0, AV.int .i64 0, AV.nils]) fun v3 => .op (.fad 0 v1) fun v4 => .op (.ld1 v4) fun v5 => .op (.fad 0 v3) fun v6 => .op (.st 1 v6 v5) fun v7 => .op (.fad 1 v1) fun v8 => .op (.ld1 v8) fun v9 => .op (.fad 1 v3) fun v10 => .op (.st 1 v10 v9) fun v11 => .op (.fad 2 v1) fun v12 => .op (.ld1 v12) fun v13 => .op (.fad 2 v3) fun v14 => .op (.st 1 v14 v13) fun v15 => .op (.fad 3 v1) fun v16 => .op (.ld1 v16) fun v17 => .op (.call n_laws_toSpanS [v17]) fun v18 => .op (.fad 3 v3) fun v19 => .op (.st 1 v19 v18) fun v20 => .op (.ldn 4 v3) fun v21 => .op (.st 4 v2 v21) fun v22 => .fin [.cn 4 v2]
theorem c_laws_toTrail (x0 : AV) : CC Tryz.prog n_laws_toTrail [x0] (p_laws_toTrail x0) := cc Tryz.func281 [] (fun _ => []) (by kernel_rfl)
/- laws.eqTrail -/
def p_laws_eqTrail (x0 x1 : AV) : Prog := .op (.box x0) fun v1 => .op (.box x1) fun v2 => .op (.fad 0 v1) fun v3 => .op (.ld1 v3) fun v4 => .op (.fad 0 v2) fun v5 => .op (.ld1 v5) fun v6 => .op (.bin 0 .neq v4 v6) fun v7 => .ite v7 (.fin [.val (AV.bool false)]) (.op (.fad 1 v1) fun v8 => .op (.ld1 v8) fun v9 => .op (.fad 1 v2) fun v10 => .op (.ld1 v10) fun v11 => .op (.bin 0 .neq v9 v11) fun v12 => .ite v12 (.fin [.val (AV.bool false)]) (.op (.fad 2 v1) fun v13 => .op (.ld1 v13) fun v14 => .op (.fad 2 v2) fun v15 => .op (.ld1 v15) fun v16 => .op (.bin 0 .neq v14 v16) fun v17 => .ite v17 (.fin [.val (AV.bool false)]) (.op (.fad 3 v1) fun v18 => .op (.ld1 v18) fun v19 => .op (.fad 3 v2) fun v20 => .op (.ld1 v20) fun v21 => .op (.call n_laws_eqSpanS [v19, v21]) fun v22 => .op (.una .not v22) fun v23 => .ite v23 (.fin [.val (AV.bool false)]) (.fin [.val (AV.bool true)]))))
theorem c_laws_eqTrail (x0 x1 : AV) : CC Tryz.prog n_laws_eqTrail [x0, x1] (p_laws_eqTrail x0 x1) := cc Tryz.func311 [] (fun _ => []) (by kernel_rfl)
/- laws.szTrail -/
def p_laws_szTrail (x0 x1 : AV) : Prog := .op (.box x0) fun v1 => .op (.fad 3 v1) fun v2 => .op (.ld1 v2) fun v3 => .op (.call n_laws_szSpanS [v3, x1]) fun v4 => .op (.bin 0 .lss v4 (AV.int .i64 0)) fun v5 => .ite v5 (.fin [.val (AV.int .i64 (-1))]) (.fin [.val v4])
theorem c_laws_szTrail (x0 x1 : AV) : CC Tryz.prog n_laws_szTrail [x0, x1] (p_laws_szTrail x0 x1) := cc Tryz.func263 [] (fun _ => []) (by kernel_rfl)
/- laws.toTrailS -/
def p_laws_toTrailS (x0 : AV) : Prog := .op (.len 0 x0) fun v1 => .op (.mksl 4 48 [AV.int .i64 0, AV.int .i64 0, AV.int .i64 0, AV.nils] v1 v1) fun v2 => .loop [AV.int .i64 0] (fun vs3 => .op (.len 0 x0) fun v5 => .op (.bin 0 .lss (g vs3 0) v5) fun v6 => .ite v6 (.op (.idx 4 x0 (g vs3 0)) fun v7 => .op (.ldn 4 v7) fun v8 => .op (.call n_laws_toTrail [v8]) fun v9 => .op (.idx 4 v2 (g vs3 0)) fun v10 => .op (.st 4 v10 v9) fun v11 => .op (.bin 0 .add (g vs3 0) (AV.int .i64 1)) fun v12 => .leaf 0 [v12]) (.leaf 2 [g vs3 0])) fun t4 vs3 => tsel t4 1 (.leaf 1 vs3) (tsel t4 2 (.fin [.val v2]) .bad)
theorem c_laws_toTrailS (x0 : AV) : CC Tryz.prog n_laws_toTrailS [x0] (p_laws_toTrailS x0) := cc Tryz.func207 [0, 3, 4] (fun _ => []) (by kernel_rfl)
/- laws.eqTrailS -/
def p_laws_eqTrailS (x0 x1 : AV) : Prog := .op (.len 0 x0) fun v1 => .op (.len 0 x1) fun v2 => .op (.bin 0 .neq v1 v2) fun v3 => .ite v3 (.fin [.val (AV.bool false)]) (.loop [AV.int .i64 0] (fun vs4 => .op (.len 0 x0) fun v6 => .op (.bin 0 .lss (g vs4 0) v6) fun v7 => .ite v7 (.op (.idx 4 x0 (g vs4 0)) fun v8 => .op (.ldn 4 v8) fun v9 => .op (.idx 4 x1 (g vs4 0)) fun v10 => .op (.ldn 4 v10) fun v11 => .op (.call n_laws_eqTrail [v9, v11]) fun v12 => .op (.una .not v12) fun v13 => .ite v13 (.fin [.val (AV.bool false)]) (.op (.bin 0 .add (g vs4 0) (AV.int .i64 1)) fun v14 => .leaf 0 [v14])) (.leaf 2 [g vs4 0])) fun t5 vs4 => tsel t5 1 (.leaf 1 vs4) (tsel t5 2 (.fin [.val (AV.bool true)]) .bad))
theorem c_laws_eqTrailS (x0 x1 : AV) : CC Tryz.prog n_laws_eqTrailS [x0, x1] (p_laws_eqTrailS x0 x1) := cc Tryz.func241 [0, 1, 5] (fun r => if r = 6 then [(0, []), (1, []), (2, []), (3, []), (4, []), (5, []), (6, []), (7, []), (8, []), (9, [])] else []) (by kernel_rfl)
/- laws.szTrailS -/
def p_laws_szTrailS (x0 x1 : AV) : Prog := .op (.len 0 x0) fun v1 => .op (.bin 0 .sub x1 v1) fun v2 => .op (.bin 0 .lss v2 (AV.int .i64 0)) fun v3 => .ite v3 (.fin [.val (AV.int .i64 (-1))]) (.loop [v2, AV.int .i64 0] (fun vs4 => .op (.len 0 x0) fun v6 => .op (.bin 0 .lss (g vs4 1) v6) fun v7 => .ite v7 (.op (.idx 4 x0 (g vs4 1)) fun v8 => .op (.ldn 4 v8) fun v9 => .op (.call n_laws_szTrail [v9, g vs4 0]) fun v10 => .op (.bin 0 .lss v10 (AV.int .i64 0)) fun v11 => .ite v11 (.fin [.val (AV.int .i64 (-1))]) (.op (.bin 0 .add (g vs4 1) (AV.int .i64 1)) fun v12 => .leaf 0 [v10, v12])) (.leaf 2 [g vs4 0, g vs4 1])) fun t5 vs4 => tsel t5 1 (.leaf 1 vs4) (tsel t5 2 (.fin [.val (g vs4 0)]) .bad))
theorem c_laws_szTrailS (x0 x1 : AV) : CC Tryz.prog n_laws_szTrailS [x0, x1] (p_laws_szTrailS x0 x1) := cc Tryz.func184 [0, 1, 5] (fun _ => []) (by kernel_rfl)
end
theorem s_laws_toTrail (x : Trail) (hs : Sz.sz x ≤ 1048576) : CopyX Trail Tryz.prog n_laws_toTrail x := by
  rintro cs F h ⟨v0, rfl, r0⟩
  have hs : (x.spans.length + szs x.spans) ≤ 1048576 := hs
  refine c_laws_toTrail _ ?_
  unfold p_laws_toTrail
  (repeat' first|refine vs ?_|(refine br ?_ ?_<;>intro _<;>try(exfalso;first|omega|contradiction))|((with_reducible refine g_callf n_laws_toSpanS ?_);(refine aw_call (copy_r s_laws_toSpanS slr_auto om_auto) ?_; rintro _ _ ⟨e_, _, _, _⟩; have n_ := e_.1; (try simp only [push_n, upd_n] at n_)))|((with_reducible refine g_idx ?_);((first|refine ix ?_|refine ixi ?_|(refine ixg ?_;intro _ _)|(refine ixgi ?_;intro _ _));first|rintro _ _ _ _ _ ⟨rfl,rfl⟩ _|rintro _ _ _ _ _ ⟨_,rfl,_⟩ _|rintro _ _ _ _ _ ⟨_,_,_,_,rfl,rfl,_,_⟩ _|intro _ _ _ _ _ _ _))|(refine sx ?_;intro _ _)|((with_reducible refine g_awp ?_);simp only [g0,g1,g2]))
  exact ⟨rfl, _, rfl, ext_auto, _, _, rfl, ⟨_, rfl, slr_auto⟩, ol_auto⟩
theorem s_laws_eqTrail : EqC Trail Tryz.prog n_laws_eqTrail := by
  rintro x cs cs' F F' h ⟨v0, rfl, r0⟩ ⟨u0, rfl, q0⟩
  refine reader (c_laws_eqTrail _ _) (by simp only [old]) ?_
  unfold p_laws_eqTrail
  (repeat' first|refine vs ?_|(refine br ?_ ?_<;>intro _<;>try(exfalso;first|omega|contradiction))|((with_reducible refine g_callf n_laws_eqSpanS ?_);refine aw_rcall (s_laws_eqSpanS _ _ _ _ _ _ slr_auto slr_auto) ?_)|((with_reducible refine g_idx ?_);((first|refine ix ?_|refine ixi ?_|(refine ixg ?_;intro _ _)|(refine ixgi ?_;intro _ _));first|rintro _ _ _ _ _ ⟨rfl,rfl⟩ _|rintro _ _ _ _ _ ⟨_,rfl,_⟩ _|rintro _ _ _ _ _ ⟨_,_,_,_,rfl,rfl,_,_⟩ _|intro _ _ _ _ _ _ _))|(refine sx ?_;intro _ _)|((with_reducible refine g_awp ?_);simp only [g0,g1,g2]))
  exact pb rfl
theorem s_laws_szTrail : SzC Trail Tryz.prog n_laws_szTrail := by
  rintro x ok cs F b h ⟨v0, rfl, r0⟩ h0 h1
  obtain ⟨ok_id, ok_stamp, ok_first, ok_spans⟩ := ok
  have hS : Sz.sz x = (x.spans.length + szs x.spans) := rfl
  refine reader (c_laws_szTrail _ _) (by simp only [old]) ?_
  unfold p_laws_szTrail
  (repeat' first|refine vs ?_|(refine br ?_ ?_<;>intro _<;>try(exfalso;first|omega|contradiction))|((with_reducible refine g_callf n_laws_szSpanS ?_);(refine aw_sz (szl s_laws_szSpanS slr_auto (by assumption) om_auto om_auto) (fun _ => ?_) (fun _ => ?_)))|((with_reducible refine g_idx ?_);((first|refine ix ?_|refine ixi ?_|(refine ixg ?_;intro _ _)|(refine ixgi ?_;intro _ _));first|rintro _ _ _ _ _ ⟨rfl,rfl⟩ _|rintro _ _ _ _ _ ⟨_,rfl,_⟩ _|rintro _ _ _ _ _ ⟨_,_,_,_,rfl,rfl,_,_⟩ _|intro _ _ _ _ _ _ _))|(refine sx ?_;intro _ _)|((with_reducible refine g_awp ?_);simp only [g0,g1,g2]))
  all_goals (refine pi ?_; unfold szr; split <;> omega)
theorem s_laws_toTrailS (xs : List Trail) (hs : xs.length + szs xs ≤ 1048576) : CopyL Tryz.prog n_laws_toTrailS xs := copyL_of rfl rfl (by decide) hs (fun x hx => s_laws_toTrail x hx) (fun g => c_laws_toTrailS _ g)
theorem s_laws_eqTrailS : EqS Trail Tryz.prog n_laws_eqTrailS := fun xs v v' F F' h r r' => reader (c_laws_eqTrailS _ _) (by simp only [old]) (eqS_spec rfl s_laws_eqTrail r r')
theorem s_laws_szTrailS : SzL Trail Tryz.prog n_laws_szTrailS := fun xs ok v F b h r h0 h1 => reader (c_laws_szTrailS _ _) (by simp only [old]) (szS_spec rfl s_laws_szTrail ok r h0 h1)
end Go.Proofs.YtjnekdbdmoibgaaGreat
end
section
/- Stripe: copies, comparisons, sizes. Written by mkl.py. -/
set_option linter.unusedSimpArgs false
set_option linter.unusedVariables false
set_option maxHeartbeats 1000000
namespace Go.Proofs.YtjnekdbdmoibgaaGreat
open Go Go.Ab
section
/- laws.toStripe -/
def p_laws_toStripe (x0 : AV) : Prog := .op (.box x0) fun v1 => .op (.alloc [AV.int .i64 0, AV.nils]) fun v2 => .op (.alloc [AV.int .i64 0, AV.nils]) fun v3 => .op (.fad 0 v1) fun v4 => .op (.ld1 v4) fun v5 => .op (.fad 0 v3) fun v6 => .op (.st 1 v6 v5) fun v7 => .op (.fad 1 v1) fun v8 => .op (.ld1 v8) fun v9 => .op (.call n_laws_toTrailS [v9]) fun v10 => .op (.fad 1 v3) fun v11 => .op (.st 1 v11 v10) fun v12 => .op (.ldn 2 v3) fun v13 => .op (.st 2 v2 v13) fun v14 => .fin [.cn 2 v2]
theorem c_laws_toStripe (x0 : AV) : CC Tryz.prog n_laws_toStripe [x0] (p_laws_toStripe x0) := cc Tryz.func128 [] (fun _ => []) (by kernel_rfl)
/- laws.eqStripe -/
def p_laws_eqStripe (x0 x1 : AV) : Prog := .op (.box x0) fun v1 => .op (.box x1) fun v2 => .op (.fad 0 v1) fun v3 => .op (.ld1 v3) fun v4 => .op (.fad 0 v2) fun v5 => .op (.ld1 v5) fun v6 => .op (.bin 0 .neq v4 v6) fun v7 => .ite v7 (.fin [.val (AV.bool false)]) (.op (.fad 1 v1) fun v8 => .op (.ld1 v8) fun v9 => .op (.fad 1 v2) fun v10 => .op (.ld1 v10) fun v11 => .op (.call n_laws_eqTrailS [v9, v11]) fun v12 => .op (.una .not v12) fun v13 => .ite v13 (.fin [.val (AV.bool false)]) (.fin [.val (AV.bool true)]))
theorem c_laws_eqStripe (x0 x1 : AV) : CC Tryz.prog n_laws_eqStripe [x0, x1] (p_laws_eqStripe x0 x1) := cc Tryz.func152 [] (fun _ => []) (by kernel_rfl)
/- laws.szStripe -/
def p_laws_szStripe (x0 x1 : AV) : Prog := .op (.box x0) fun v1 => .op (.fad 1 v1) fun v2 => .op (.ld1 v2) fun v3 => .op (.call n_laws_szTrailS [v3, x1]) fun v4 => .op (.bin 0 .lss v4 (AV.int .i64 0)) fun v5 => .ite v5 (.fin [.val (AV.int .i64 (-1))]) (.fin [.val v4])
theorem c_laws_szStripe (x0 x1 : AV) : CC Tryz.prog n_laws_szStripe [x0, x1] (p_laws_szStripe x0 x1) := cc Tryz.func102 [] (fun _ => []) (by kernel_rfl)
/- laws.toStripeS -/
def p_laws_toStripeS (x0 : AV) : Prog := .op (.len 0 x0) fun v1 => .op (.mksl 2 32 [AV.int .i64 0, AV.nils] v1 v1) fun v2 => .loop [AV.int .i64 0] (fun vs3 => .op (.len 0 x0) fun v5 => .op (.bin 0 .lss (g vs3 0) v5) fun v6 => .ite v6 (.op (.idx 2 x0 (g vs3 0)) fun v7 => .op (.ldn 2 v7) fun v8 => .op (.call n_laws_toStripe [v8]) fun v9 => .op (.idx 2 v2 (g vs3 0)) fun v10 => .op (.st 2 v10 v9) fun v11 => .op (.bin 0 .add (g vs3 0) (AV.int .i64 1)) fun v12 => .leaf 0 [v12]) (.leaf 2 [g vs3 0])) fun t4 vs3 => tsel t4 1 (.leaf 1 vs3) (tsel t4 2 (.fin [.val v2]) .bad)
theorem c_laws_toStripeS (x0 : AV) : CC Tryz.prog n_laws_toStripeS [x0] (p_laws_toStripeS x0) := cc Tryz.func46 [0, 3, 4] (fun _ => []) (by kernel_rfl)
/- laws.eqStripeS -/
def p_laws_eqStripeS (x0 x1 : AV) : Prog := .op (.len 0 x0) fun v1 => .op (.len 0 x1) fun v2 => .op (.bin 0 .neq v1 v2) fun v3 => .ite v3 (.fin [.val (AV.bool false)]) (.loop [AV.int .i64 0] (fun vs4 => .op (.len 0 x0) fun v6 => .op (.bin 0 .lss (g vs4 0) v6) fun v7 => .ite v7 (.op (.idx 2 x0 (g vs4 0)) fun v8 => .op (.ldn 2 v8) fun v9 => .op (.idx 2 x1 (g vs4 0)) fun v10 => .op (.ldn 2 v10) fun v11 => .op (.call n_laws_eqStripe [v9, v11]) fun v12 => .op (.una .not v12) fun v13 => .ite v13 (.fin [.val (AV.bool false)]) (.op (.bin 0 .add (g vs4 0) (AV.int .i64 1)) fun v14 => .leaf 0 [v14])) (.leaf 2 [g vs4 0])) fun t5 vs4 => tsel t5 1 (.leaf 1 vs4) (tsel t5 2 (.fin [.val (AV.bool true)]) .bad))
theorem c_laws_eqStripeS (x0 x1 : AV) : CC Tryz.prog n_laws_eqStripeS [x0, x1] (p_laws_eqStripeS x0 x1) := cc Tryz.func61 [0, 1, 5] (fun r => if r = 6 then [(0, []), (1, []), (2, []), (3, []), (4, []), (5, []), (6, []), (7, []), (8, []), (9, [])] else []) (by kernel_rfl)
/- laws.szStripeS -/
def p_laws_szStripeS (x0 x1 : AV) : Prog := .op (.len 0 x0) fun v1 => .op (.bin 0 .sub x1 v1) fun v2 => .op (.bin 0 .lss v2 (AV.int .i64 0)) fun v3 => .ite v3 (.fin [.val (AV.int .i64 (-1))]) (.loop [v2, AV.int .i64 0] (fun vs4 => .op (.len 0 x0) fun v6 => .op (.bin 0 .lss (g vs4 1) v6) fun v7 => .ite v7 (.op (.idx 2 x0 (g vs4 1)) fun v8 => .op (.ldn 2 v8) fun v9 => .op (.call n_laws_szStripe [v9, g vs4 0]) fun v10 => .op (.bin 0 .lss v10 (AV.int .i64 0)) fun v11 => .ite v11 (.fin [.val (AV.int .i64 (-1))]) (.op (.bin 0 .add (g vs4 1) (AV.int .i64 1)) fun v12 => .leaf 0 [v10, v12])) (.leaf 2 [g vs4 0, g vs4 1])) fun t5 vs4 => tsel t5 1 (.leaf 1 vs4) (tsel t5 2 (.fin [.val (g vs4 0)]) .bad))
theorem c_laws_szStripeS (x0 x1 : AV) : CC Tryz.prog n_laws_szStripeS [x0, x1] (p_laws_szStripeS x0 x1) := cc Tryz.func34 [0, 1, 5] (fun _ => []) (by kernel_rfl)
end
theorem s_laws_toStripe (x : Stripe) (hs : Sz.sz x ≤ 1048576) : CopyX Stripe Tryz.prog n_laws_toStripe x := by
  rintro cs F h ⟨v0, rfl, r0⟩
  have hs : (x.l.length + szs x.l) ≤ 1048576 := hs
  refine c_laws_toStripe _ ?_
  unfold p_laws_toStripe
  (repeat' first|refine vs ?_|(refine br ?_ ?_<;>intro _<;>try(exfalso;first|omega|contradiction))|((with_reducible refine g_callf n_laws_toTrailS ?_);(refine aw_call (copy_r s_laws_toTrailS slr_auto om_auto) ?_; rintro _ _ ⟨e_, _, _, _⟩; have n_ := e_.1; (try simp only [push_n, upd_n] at n_)))|((with_reducible refine g_idx ?_);((first|refine ix ?_|refine ixi ?_|(refine ixg ?_;intro _ _)|(refine ixgi ?_;intro _ _));first|rintro _ _ _ _ _ ⟨rfl,rfl⟩ _|rintro _ _ _ _ _ ⟨_,rfl,_⟩ _|rintro _ _ _ _ _ ⟨_,_,_,_,rfl,rfl,_,_⟩ _|intro _ _ _ _ _ _ _))|(refine sx ?_;intro _ _)|((with_reducible refine g_awp ?_);simp only [g0,g1,g2]))
  exact ⟨rfl, _, rfl, ext_auto, _, _, rfl, ⟨_, rfl, slr_auto⟩, ol_auto⟩
theorem s_laws_eqStripe : EqC Stripe Tryz.prog n_laws_eqStripe := by
  rintro x cs cs' F F' h ⟨v0, rfl, r0⟩ ⟨u0, rfl, q0⟩
  refine reader (c_laws_eqStripe _ _) (by simp only [old]) ?_
  unfold p_laws_eqStripe
  (repeat' first|refine vs ?_|(refine br ?_ ?_<;>intro _<;>try(exfalso;first|omega|contradiction))|((with_reducible refine g_callf n_laws_eqTrailS ?_);refine aw_rcall (s_laws_eqTrailS _ _ _ _ _ _ slr_auto slr_auto) ?_)|((with_reducible refine g_idx ?_);((first|refine ix ?_|refine ixi ?_|(refine ixg ?_;intro _ _)|(refine ixgi ?_;intro _ _));first|rintro _ _ _ _ _ ⟨rfl,rfl⟩ _|rintro _ _ _ _ _ ⟨_,rfl,_⟩ _|rintro _ _ _ _ _ ⟨_,_,_,_,rfl,rfl,_,_⟩ _|intro _ _ _ _ _ _ _))|(refine sx ?_;intro _ _)|((with_reducible refine g_awp ?_);simp only [g0,g1,g2]))
  exact pb rfl
theorem s_laws_szStripe : SzC Stripe Tryz.prog n_laws_szStripe := by
  rintro x ok cs F b h ⟨v0, rfl, r0⟩ h0 h1
  obtain ⟨ok_held, ok_l⟩ := ok
  have hS : Sz.sz x = (x.l.length + szs x.l) := rfl
  refine reader (c_laws_szStripe _ _) (by simp only [old]) ?_
  unfold p_laws_szStripe
  (repeat' first|refine vs ?_|(refine br ?_ ?_<;>intro _<;>try(exfalso;first|omega|contradiction))|((with_reducible refine g_callf n_laws_szTrailS ?_);(refine aw_sz (s_laws_szTrailS _ (by assumption) _ _ _ _ slr_auto om_auto om_auto) (fun _ => ?_) (fun _ => ?_)))|((with_reducible refine g_idx ?_);((first|refine ix ?_|refine ixi ?_|(refine ixg ?_;intro _ _)|(refine ixgi ?_;intro _ _));first|rintro _ _ _ _ _ ⟨rfl,rfl⟩ _|rintro _ _ _ _ _ ⟨_,rfl,_⟩ _|rintro _ _ _ _ _ ⟨_,_,_,_,rfl,rfl,_,_⟩ _|intro _ _ _ _ _ _ _))|(refine sx ?_;intro _ _)|((with_reducible refine g_awp ?_);simp only [g0,g1,g2]))
  all_goals (refine pi ?_; unfold szr; split <;> omega)
theorem s_laws_toStripeS (xs : List Stripe) (hs : xs.length + szs xs ≤ 1048576) : CopyL Tryz.prog n_laws_toStripeS xs := copyL_of rfl rfl (by decide) hs (fun x hx => s_laws_toStripe x hx) (fun g => c_laws_toStripeS _ g)
theorem s_laws_eqStripeS : EqS Stripe Tryz.prog n_laws_eqStripeS := fun xs v v' F F' h r r' => reader (c_laws_eqStripeS _ _) (by simp only [old]) (eqS_spec rfl s_laws_eqStripe r r')
theorem s_laws_szStripeS : SzL Stripe Tryz.prog n_laws_szStripeS := fun xs ok v F b h r h0 h1 => reader (c_laws_szStripeS _ _) (by simp only [old]) (szS_spec rfl s_laws_szStripe ok r h0 h1)
end Go.Proofs.YtjnekdbdmoibgaaGreat
end
section
/- Itm: copies, comparisons, sizes. Written by mkl.py. -/
set_option linter.unusedSimpArgs false
set_option linter.unusedVariables false
set_option maxHeartbeats 1000000
namespace Go.Proofs.YtjnekdbdmoibgaaGreat
open Go Go.Ab
section
/- laws.toItem -/
def p_laws_toItem (x0 : AV) : Prog := .op (.box x0) fun v1 => .op (.alloc z7_a90) fun v2 => .op (.alloc z7_a90) fun v3 => .op (.fad 0 v1) fun v4 => .op (.ld1 v4) fun v5 => .op (.fad 0 v3) fun v6 => .op (.st 1 v6 v5) fun v7 => .op (.fad 1 v1) fun v8 => .op (.ldn 6 v8) fun v9 => .op (.call n_laws_toSpan [v9]) fun v10 => .op (.fad 1 v3) fun v11 => .op (.st 6 v11 v10) fun v12 => .op (.ldn 7 v3) fun v13 => .op (.st 7 v2 v13) fun v14 => .fin [.cn 7 v2]
theorem c_laws_toItem (x0 : AV) : CC Tryz.prog n_laws_toItem [x0] (p_laws_toItem x0) := cc Tryz.func132 [] (fun _ => []) (by kernel_rfl)
/- laws.eqItem -/
def p_laws_eqItem (x0 x1 : AV) : Prog := .op (.box x0) fun v1 => .op (.box x1) fun v2 => .op (.fad 0 v1) fun v3 => .op (.ld1 v3) fun v4 => .op (.fad 0 v2) fun v5 => .op (.ld1 v5) fun v6 => .op (.bin 0 .neq v4 v6) fun v7 => .ite v7 (.fin [.val (AV.bool false)]) (.op (.fad 1 v1) fun v8 => .op (.ldn 6 v8) fun v9 => .op (.fad 1 v2) fun v10 => .op (.ldn 6 v10) fun v11 => .op (.call n_laws_eqSpan [v9, v11]) fun v12 => .op (.una .not v12) fun v13 => .ite v13 (.fin [.val (AV.bool false)]) (.fin [.val (AV.bool true)]))
theorem c_laws_eqItem (x0 x1 : AV) : CC Tryz.prog n_laws_eqItem [x0, x1] (p_laws_eqItem x0 x1) := cc Tryz.func156 [] (fun _ => []) (by kernel_rfl)
/- laws.szItem -/
def p_laws_szItem (x0 x1 : AV) : Prog := .op (.box x0) fun v1 => .op (.fad 1 v1) fun v2 => .op (.ldn 6 v2) fun v3 => .op (.call n_laws_szSpan [v3, x1]) fun v4 => .op (.bin 0 .lss v4 (AV.int .i64 0)) fun v5 => .ite v5 (.fin [.val (AV.int .i64 (-1))]) (.fin [.val v4])
theorem c_laws_szItem (x0 x1 : AV) : CC Tryz.prog n_laws_szItem [x0, x1] (p_laws_szItem x0 x1) := cc Tryz.func104 [] (fun _ => []) (by kernel_rfl)
/- laws.toItemS -/
def p_laws_toItemS (x0 : AV) : Prog := .op (.len 0 x0) fun v1 => .op (.mksl 7 72 z7_a90 v1 v1) fun v2 => .loop [AV.int .i64 0] (fun vs3 => .op (.len 0 x0) fun v5 => .op (.bin 0 .lss (g vs3 0) v5) fun v6 => .ite v6 (.op (.idx 7 x0 (g vs3 0)) fun v7 => .op (.ldn 7 v7) fun v8 => .op (.call n_laws_toItem [v8]) fun v9 => .op (.idx 7 v2 (g vs3 0)) fun v10 => .op (.st 7 v10 v9) fun v11 => .op (.bin 0 .add (g vs3 0) (AV.int .i64 1)) fun v12 => .leaf 0 [v12]) (.leaf 2 [g vs3 0])) fun t4 vs3 => tsel t4 1 (.leaf 1 vs3) (tsel t4 2 (.fin [.val v2]) .bad)
theorem c_laws_toItemS (x0 : AV) : CC Tryz.prog n_laws_toItemS [x0] (p_laws_toItemS x0) := cc Tryz.func51 [0, 3, 4] (fun _ => []) (by kernel_rfl)
/- laws.eqItemS -/
def p_laws_eqItemS (x0 x1 : AV) : Prog := .op (.len 0 x0) fun v1 => .op (.len 0 x1) fun v2 => .op (.bin 0 .neq v1 v2) fun v3 => .ite v3 (.fin [.val (AV.bool false)]) (.loop [AV.int .i64 0] (fun vs4 => .op (.len 0 x0) fun v6 => .op (.bin 0 .lss (g vs4 0) v6) fun v7 => .ite v7 (.op (.idx 7 x0 (g vs4 0)) fun v8 => .op (.ldn 7 v8) fun v9 => .op (.idx 7 x1 (g vs4 0)) fun v10 => .op (.ldn 7 v10) fun v11 => .op (.call n_laws_eqItem [v9, v11]) fun v12 => .op (.una .not v12) fun v13 => .ite v13 (.fin [.val (AV.bool false)]) (.op (.bin 0 .add (g vs4 0) (AV.int .i64 1)) fun v14 => .leaf 0 [v14])) (.leaf 2 [g vs4 0])) fun t5 vs4 => tsel t5 1 (.leaf 1 vs4) (tsel t5 2 (.fin [.val (AV.bool true)]) .bad))
theorem c_laws_eqItemS (x0 x1 : AV) : CC Tryz.prog n_laws_eqItemS [x0, x1] (p_laws_eqItemS x0 x1) := cc Tryz.func66 [0, 1, 5] (fun r => if r = 6 then [(0, []), (1, []), (2, []), (3, []), (4, []), (5, []), (6, []), (7, []), (8, []), (9, [])] else []) (by kernel_rfl)
/- laws.szItemS -/
def p_laws_szItemS (x0 x1 : AV) : Prog := .op (.len 0 x0) fun v1 => .op (.bin 0 .sub x1 v1) fun v2 => .op (.bin 0 .lss v2 (AV.int .i64 0)) fun v3 => .ite v3 (.fin [.val (AV.int .i64 (-1))]) (.loop [v2, AV.int .i64 0] (fun vs4 => .op (.len 0 x0) fun v6 => .op (.bin 0 .lss (g vs4 1) v6) fun v7 => .ite v7 (.op (.idx 7 x0 (g vs4 1)) fun v8 => .op (.ldn 7 v8) fun v9 => .op (.call n_laws_szItem [v9, g vs4 0]) fun v10 => .op (.bin 0 .lss v10 (AV.int .i64 0)) fun v11 => .ite v11 (.fin [.val (AV.int .i64 (-1))]) (.op (.bin 0 .add (g vs4 1) (AV.int .i64 1)) fun v12 => .leaf 0 [v10, v12])) (.leaf 2 [g vs4 0, g vs4 1])) fun t5 vs4 => tsel t5 1 (.leaf 1 vs4) (tsel t5 2 (.fin [.val (g vs4 0)]) .bad))
theorem c_laws_szItemS (x0 x1 : AV) : CC Tryz.prog n_laws_szItemS [x0, x1] (p_laws_szItemS x0 x1) := cc Tryz.func38 [0, 1, 5] (fun _ => []) (by kernel_rfl)
end
theorem s_laws_toItem (x : Itm) (hs : Sz.sz x ≤ 1048576) : CopyX Itm Tryz.prog n_laws_toItem x := by
  rintro cs F h ⟨v0, rfl, r0⟩
  have hs : Sz.sz x.s ≤ 1048576 := hs
  have e_s : Sz.sz x.s = (x.s.attrs.length + szs x.s.attrs) := rfl
  refine c_laws_toItem _ ?_
  unfold p_laws_toItem
  (repeat' first|refine vs ?_|(refine br ?_ ?_<;>intro _<;>try(exfalso;first|omega|contradiction))|((with_reducible refine g_callf n_laws_toSpan ?_);(refine aw_call (s_laws_toSpan _ om_auto _ _ _ ⟨_, rfl, slr_auto⟩) ?_; rintro _ _ ⟨e_, _, _, rfl, ⟨_, rfl, _⟩, _⟩; have n_ := e_.1; (try simp only [push_n, upd_n] at n_)))|((with_reducible refine g_idx ?_);((first|refine ix ?_|refine ixi ?_|(refine ixg ?_;intro _ _)|(refine ixgi ?_;intro _ _));first|rintro _ _ _ _ _ ⟨rfl,rfl⟩ _|rintro _ _ _ _ _ ⟨_,rfl,_⟩ _|rintro _ _ _ _ _ ⟨_,_,_,_,rfl,rfl,_,_⟩ _|intro _ _ _ _ _ _ _))|(refine sx ?_;intro _ _)|((with_reducible refine g_awp ?_);simp only [g0,g1,g2]))
  exact ⟨rfl, _, rfl, ext_auto, _, _, rfl, ⟨_, rfl, slr_auto⟩, ol_auto⟩
theorem s_laws_eqItem : EqC Itm Tryz.prog n_laws_eqItem := by
  rintro x cs cs' F F' h ⟨v0, rfl, r0⟩ ⟨u0, rfl, q0⟩
  refine reader (c_laws_eqItem _ _) (by simp only [old]) ?_
  unfold p_laws_eqItem
  (repeat' first|refine vs ?_|(refine br ?_ ?_<;>intro _<;>try(exfalso;first|omega|contradiction))|((with_reducible refine g_callf n_laws_eqSpan ?_);refine aw_rcall (s_laws_eqSpan _ _ _ _ _ _ ⟨_, rfl, slr_auto⟩ ⟨_, rfl, slr_auto⟩) ?_)|((with_reducible refine g_idx ?_);((first|refine ix ?_|refine ixi ?_|(refine ixg ?_;intro _ _)|(refine ixgi ?_;intro _ _));first|rintro _ _ _ _ _ ⟨rfl,rfl⟩ _|rintro _ _ _ _ _ ⟨_,rfl,_⟩ _|rintro _ _ _ _ _ ⟨_,_,_,_,rfl,rfl,_,_⟩ _|intro _ _ _ _ _ _ _))|(refine sx ?_;intro _ _)|((with_reducible refine g_awp ?_);simp only [g0,g1,g2]))
  exact pb rfl
theorem s_laws_szItem : SzC Itm Tryz.prog n_laws_szItem := by
  rintro x ok cs F b h ⟨v0, rfl, r0⟩ h0 h1
  obtain ⟨ok_stamp, ok_s⟩ := ok
  have hS : Sz.sz x = Sz.sz x.s := rfl
  have e_s : Sz.sz x.s = (x.s.attrs.length + szs x.s.attrs) := rfl
  refine reader (c_laws_szItem _ _) (by simp only [old]) ?_
  unfold p_laws_szItem
  (repeat' first|refine vs ?_|(refine br ?_ ?_<;>intro _<;>try(exfalso;first|omega|contradiction))|((with_reducible refine g_callf n_laws_szSpan ?_);(refine aw_sz (s_laws_szSpan _ (by assumption) _ _ _ _ ⟨_, rfl, slr_auto⟩ om_auto om_auto) (fun _ => ?_) (fun _ => ?_)))|((with_reducible refine g_idx ?_);((first|refine ix ?_|refine ixi ?_|(refine ixg ?_;intro _ _)|(refine ixgi ?_;intro _ _));first|rintro _ _ _ _ _ ⟨rfl,rfl⟩ _|rintro _ _ _ _ _ ⟨_,rfl,_⟩ _|rintro _ _ _ _ _ ⟨_,_,_,_,rfl,rfl,_,_⟩ _|intro _ _ _ _ _ _ _))|(refine sx ?_;intro _ _)|((with_reducible refine g_awp ?_);simp only [g0,g1,g2]))
  all_goals (refine pi ?_; unfold szr; split <;> omega)
theorem s_laws_toItemS (xs : List Itm) (hs : xs.length + szs xs ≤ 1048576) : CopyL Tryz.prog n_laws_toItemS xs := copyL_of rfl rfl (by decide) hs (fun x hx => s_laws_toItem x hx) (fun g => c_laws_toItemS _ g)
theorem s_laws_eqItemS : EqS Itm Tryz.prog n_laws_eqItemS := fun xs v v' F F' h r r' => reader (c_laws_eqItemS _ _) (by simp only [old]) (eqS_spec rfl s_laws_eqItem r r')
theorem s_laws_szItemS : SzL Itm Tryz.prog n_laws_szItemS := fun xs ok v F b h r h0 h1 => reader (c_laws_szItemS _ _) (by simp only [old]) (szS_spec rfl s_laws_szItem ok r h0 h1)
end Go.Proofs.YtjnekdbdmoibgaaGreat
end
section
/- Task: copies, comparisons, sizes. Written by mkl.py. -/
set_option linter.unusedSimpArgs false
set_option linter.unusedVariables false
set_option maxHeartbeats 1000000
namespace Go.Proofs.YtjnekdbdmoibgaaGreat
open Go Go.Ab
section
/- laws.toTask -/
def p_laws_toTask (x0 : AV) : Prog := .op (.box x0) fun v1 => .op (.alloc z12_f83) fun v2 => .op (.alloc z12_f83) fun v3 => .op (.fad 0 v1) fun v4 => .op (.ld1 v4) fun v5 => .op (.fad 0 v3) fun v6 => .op (.st 1 v6 v5) fun v7 => .op (.fad 1 v1) fun v8 => .op (.ld1 v8) fun v9 => .op (.fad 1 v3) fun v10 => .op (.st 1 v10 v9) fun v11 => .op (.fad 2 v1) fun v12 => .op (.ldn 6 v12) fun v13 => .op (.call n_laws_toSpan [v13]) fun v14 => .op (.fad 2 v3) fun v15 => .op (.st 6 v15 v14) fun v16 => .op (.fad 8 v1) fun v17 => .op (.ld1 v17) fun v18 => .op (.fad 8 v3) fun v19 => .op (.st 1 v19 v18) fun v20 => .op (.fad 9 v1) fun v21 => .op (.ld1 v21) fun v22 => .op (.fad 9 v3) fun v23 => .op (.st 1 v23 v22) fun v24 => .op (.fad 10 v1) fun v25 => .op (.ld1 v25) fun v26 => .op (.call n_laws_toItemS [v26]) fun v27 => .op (.fad 10 v3) fun v28 => .op (.st 1 v28 v27) fun v29 => .op (.fad 11 v1) fun v30 => .op (.ld1 v30) fun v31 => .op (.fad 11 v3) fun v32 => .op (.st 1 v32 v31) fun v33 => .op (.ldn 12 v3) fun v34 => .op (.st 12 v2 v34) fun v35 => .fin [.cn 12 v2]
theorem c_laws_toTask (x0 : AV) : CC Tryz.prog n_laws_toTask [x0] (p_laws_toTask x0) := cc Tryz.func133 [] (fun _ => []) (by kernel_rfl)
/- laws.eqTask -/
def p_laws_eqTask (x0 x1 : AV) : Prog := .op (.box x0) fun v1 => .op (.box x1) fun v2 => .op (.fad 0 v1) fun v3 => .op (.ld1 v3) fun v4 => .op (.fad 0 v2) fun v5 => .op (.ld1 v5) fun v6 => .op (.bin 0 .neq v4 v6) fun v7 => .ite v7 (.fin [.val (AV.bool false)]) (.op (.fad 1 v1) fun v8 => .op (.ld1 v8) fun v9 => .op (.fad 1 v2) fun v10 => .op (.ld1 v10) fun v11 => .op (.bin 0 .neq v9 v11) fun v12 => .ite v12 (.fin [.val (AV.bool false)]) (.op (.fad 2 v1) fun v13 => .op (.ldn 6 v13) fun v14 => .op (.fad 2 v2) fun v15 => .op (.ldn 6 v15) fun v16 => .op (.call n_laws_eqSpan [v14, v16]) fun v17 => .op (.una .not v17) fun v18 => .ite v18 (.fin [.val (AV.bool false)]) (.op (.fad 8 v1) fun v19 => .op (.ld1 v19) fun v20 => .op (.fad 8 v2) fun v21 => .op (.ld1 v21) fun v22 => .op (.bin 0 .neq v20 v22) fun v23 => .ite v23 (.fin [.val (AV.bool false)]) (.op (.fad 9 v1) fun v24 => .op (.ld1 v24) fun v25 => .op (.fad 9 v2) fun v26 => .op (.ld1 v26) fun v27 => .op (.bin 0 .neq v25 v27) fun v28 => .ite v28 (.fin [.val (AV.bool false)]) (.op (.fad 10 v1) fun v29 => .op (.ld1 v29) fun v30 => .op (.fad 10 v2) fun v31 => .op (.ld1 v31) fun v32 => .op (.call n_laws_eqItemS [v30, v32]) fun v33 => .op (.una .not v33) fun v34 => .ite v34 (.fin [.val (AV.bool false)]) (.op (.fad 11 v1) fun v35 => .op (.ld1 v35) fun v36 => .op (.fad 11 v2) fun v37 => .op (.ld1 v37) fun v38 => .op (.bin 0 .neq v36 v38) fun v39 => .ite v39 (.fin [.val (AV.bool false)]) (.fin [.val (AV.bool true)])))))))
theorem c_laws_eqTask (x0 x1 : AV) : CC Tryz.prog n_laws_eqTask [x0, x1] (p_laws_eqTask x0 x1) := cc Tryz.func157 [] (fun _ => []) (by kernel_rfl)
/- laws.szTask -/
def p_laws_szTask (x0 x1 : AV) : Prog := .op (.box x0) fun v1 => .op (.fad 2 v1) fun v2 => .op (.ldn 6 v2) fun v3 => .op (.call n_laws_szSpan [v3, x1]) fun v4 => .op (.bin 0 .lss v4 (AV.int .i64 0)) fun v5 => .ite v5 (.fin [.val (AV.int .i64 (-1))]) (.op (.fad 10 v1) fun v6 => .op (.ld1 v6) fun v7 => .op (.call n_laws_szItemS [v7, v4]) fun v8 => .op (.bin 0 .lss v8 (AV.int .i64 0)) fun v9 => .ite v9 (.fin [.val (AV.int .i64 (-1))]) (.fin [.val v8]))
theorem c_laws_szTask (x0 x1 : AV) : CC Tryz.prog n_laws_szTask [x0, x1] (p_laws_szTask x0 x1) := cc Tryz.func105 [] (fun _ => []) (by kernel_rfl)
end
theorem s_laws_toTask (x : Task) (hs : Sz.sz x ≤ 1048576) : CopyX Task Tryz.prog n_laws_toTask x := by
  rintro cs F h ⟨v0, v1, F0, F1, rfl, rfl, r0, r1⟩
  have hs : Sz.sz x.s + (x.hand.length + szs x.hand) ≤ 1048576 := hs
  have e_s : Sz.sz x.s = (x.s.attrs.length + szs x.s.attrs) := rfl
  refine c_laws_toTask _ ?_
  unfold p_laws_toTask
  (repeat' first|refine vs ?_|(refine br ?_ ?_<;>intro _<;>try(exfalso;first|omega|contradiction))|((with_reducible refine g_callf n_laws_toSpan ?_);(refine aw_call (s_laws_toSpan _ om_auto _ _ _ ⟨_, rfl, slr_auto⟩) ?_; rintro _ _ ⟨e_, _, _, rfl, ⟨_, rfl, _⟩, _⟩; have n_ := e_.1; (try simp only [push_n, upd_n] at n_)))|((with_reducible refine g_callf n_laws_toItemS ?_);(refine aw_call (copy_r s_laws_toItemS slr_auto om_auto) ?_; rintro _ _ ⟨e_, _, _, _⟩; have n_ := e_.1; (try simp only [push_n, upd_n] at n_)))|((with_reducible refine g_idx ?_);((first|refine ix ?_|refine ixi ?_|(refine ixg ?_;intro _ _)|(refine ixgi ?_;intro _ _));first|rintro _ _ _ _ _ ⟨rfl,rfl⟩ _|rintro _ _ _ _ _ ⟨_,rfl,_⟩ _|rintro _ _ _ _ _ ⟨_,_,_,_,rfl,rfl,_,_⟩ _|intro _ _ _ _ _ _ _))|(refine sx ?_;intro _ _)|((with_reducible refine g_awp ?_);simp only [g0,g1,g2]))
  exact ⟨rfl, _, rfl, ext_auto, _, _, rfl, ⟨_, _, _, _, rfl, rfl, slr_auto, slr_auto⟩, (ol_app2 oll_auto oll_auto dis_auto).1⟩
theorem s_laws_eqTask : EqC Task Tryz.prog n_laws_eqTask := by
  rintro x cs cs' F F' h ⟨v0, v1, F0, F1, rfl, rfl, r0, r1⟩ ⟨u0, u1, G0, G1, rfl, rfl, q0, q1⟩
  refine reader (c_laws_eqTask _ _) (by simp only [old]) ?_
  unfold p_laws_eqTask
  (repeat' first|refine vs ?_|(refine br ?_ ?_<;>intro _<;>try(exfalso;first|omega|contradiction))|((with_reducible refine g_callf n_laws_eqSpan ?_);refine aw_rcall (s_laws_eqSpan _ _ _ _ _ _ ⟨_, rfl, slr_auto⟩ ⟨_, rfl, slr_auto⟩) ?_)|((with_reducible refine g_callf n_laws_eqItemS ?_);refine aw_rcall (s_laws_eqItemS _ _ _ _ _ _ slr_auto slr_auto) ?_)|((with_reducible refine g_idx ?_);((first|refine ix ?_|refine ixi ?_|(refine ixg ?_;intro _ _)|(refine ixgi ?_;intro _ _));first|rintro _ _ _ _ _ ⟨rfl,rfl⟩ _|rintro _ _ _ _ _ ⟨_,rfl,_⟩ _|rintro _ _ _ _ _ ⟨_,_,_,_,rfl,rfl,_,_⟩ _|intro _ _ _ _ _ _ _))|(refine sx ?_;intro _ _)|((with_reducible refine g_awp ?_);simp only [g0,g1,g2]))
  exact pb rfl
theorem s_laws_szTask : SzC Task Tryz.prog n_laws_szTask := by
  rintro x ok cs F b h ⟨v0, v1, F0, F1, rfl, rfl, r0, r1⟩ h0 h1
  obtain ⟨ok_op, ok_pc, ok_s, ok_trace, ok_stamp, ok_hand, ok_h⟩ := ok
  have hS : Sz.sz x = Sz.sz x.s + (x.hand.length + szs x.hand) := rfl
  have e_s : Sz.sz x.s = (x.s.attrs.length + szs x.s.attrs) := rfl
  refine reader (c_laws_szTask _ _) (by simp only [old]) ?_
  unfold p_laws_szTask
  (repeat' first|refine vs ?_|(refine br ?_ ?_<;>intro _<;>try(exfalso;first|omega|contradiction))|((with_reducible refine g_callf n_laws_szSpan ?_);(refine aw_sz (s_laws_szSpan _ (by assumption) _ _ _ _ ⟨_, rfl, slr_auto⟩ om_auto om_auto) (fun _ => ?_) (fun _ => ?_)))|((with_reducible refine g_callf n_laws_szItemS ?_);(refine aw_sz (szl s_laws_szItemS slr_auto (by assumption) om_auto om_auto) (fun _ => ?_) (fun _ => ?_)))|((with_reducible refine g_idx ?_);((first|refine ix ?_|refine ixi ?_|(refine ixg ?_;intro _ _)|(refine ixgi ?_;intro _ _));first|rintro _ _ _ _ _ ⟨rfl,rfl⟩ _|rintro _ _ _ _ _ ⟨_,rfl,_⟩ _|rintro _ _ _ _ _ ⟨_,_,_,_,rfl,rfl,_,_⟩ _|intro _ _ _ _ _ _ _))|(refine sx ?_;intro _ _)|((with_reducible refine g_awp ?_);simp only [g0,g1,g2]))
  all_goals (refine pi ?_; unfold szr; split <;> omega)
end Go.Proofs.YtjnekdbdmoibgaaGreat
end
section
/- Task: copies, comparisons, sizes. Written by mkl.py. -/
set_option linter.unusedSimpArgs false
set_option linter.unusedVariables false
set_option maxHeartbeats 1000000
namespace Go.Proofs.YtjnekdbdmoibgaaGreat
open Go Go.Ab
section
/- laws.toTaskS -/
def p_laws_toTaskS (x0 : AV) : Prog := .op (.len 0 x0) fun v1 => .op (.mksl 12 128 z12_f83 v1 v1) fun v2 => .loop [AV.int .i64 0] (fun vs3 => .op (.len 0 x0) fun v5 => .op (.bin 0 .lss (g vs3 0) v5) fun v6 => .ite v6 (.op (.idx 12 x0 (g vs3 0)) fun v7 => .op (.ldn 12 v7) fun v8 => .op (.call n_laws_toTask [v8]) fun v9 => .op (.idx 12 v2 (g vs3 0)) fun v10 => .op (.st 12 v10 v9) fun v11 => .op (.bin 0 .add (g vs3 0) (AV.int .i64 1)) fun v12 => .leaf 0 [v12]) (.leaf 2 [g vs3 0])) fun t4 vs3 => tsel t4 1 (.leaf 1 vs3) (tsel t4 2 (.fin [.val v2]) .bad)
theorem c_laws_toTaskS (x0 : AV) : CC Tryz.prog n_laws_toTaskS [x0] (p_laws_toTaskS x0) := cc Tryz.func52 [0, 3, 4] (fun _ => []) (by kernel_rfl)
/- laws.eqTaskS -/
def p_laws_eqTaskS (x0 x1 : AV) : Prog := .op (.len 0 x0) fun v1 => .op (.len 0 x1) fun v2 => .op (.bin 0 .neq v1 v2) fun v3 => .ite v3 (.fin [.val (AV.bool false)]) (.loop [AV.int .i64 0] (fun vs4 => .op (.len 0 x0) fun v6 => .op (.bin 0 .lss (g vs4 0) v6) fun v7 => .ite v7 (.op (.idx 12 x0 (g vs4 0)) fun v8 => .op (.ldn 12 v8) fun v9 => .op (.idx 12 x1 (g vs4 0)) fun v10 => .op (.ldn 12 v10) fun v11 => .op (.call n_laws_eqTask [v9, v11]) fun v12 => .op (.una .not v12) fun v13 => .ite v13 (.fin [.val (AV.bool false)]) (.op (.bin 0 .add (g vs4 0) (AV.int .i64 1)) fun v14 => .leaf 0 [v14])) (.leaf 2 [g vs4 0])) fun t5 vs4 => tsel t5 1 (.leaf 1 vs4) (tsel t5 2 (.fin [.val (AV.bool true)]) .bad))
theorem c_laws_eqTaskS (x0 x1 : AV) : CC Tryz.prog n_laws_eqTaskS [x0, x1] (p_laws_eqTaskS x0 x1) := cc Tryz.func67 [0, 1, 5] (fun r => if r = 6 then [(0, []), (1, []), (2, []), (3, []), (4, []), (5, []), (6, []), (7, []), (8, []), (9, [])] else []) (by kernel_rfl)
/- laws.szTaskS -/
def p_laws_szTaskS (x0 x1 : AV) : Prog := .op (.len 0 x0) fun v1 => .op (.bin 0 .sub x1 v1) fun v2 => .op (.bin 0 .lss v2 (AV.int .i64 0)) fun v3 => .ite v3 (.fin [.val (AV.int .i64 (-1))]) (.loop [v2, AV.int .i64 0] (fun vs4 => .op (.len 0 x0) fun v6 => .op (.bin 0 .lss (g vs4 1) v6) fun v7 => .ite v7 (.op (.idx 12 x0 (g vs4 1)) fun v8 => .op (.ldn 12 v8) fun v9 => .op (.call n_laws_szTask [v9, g vs4 0]) fun v10 => .op (.bin 0 .lss v10 (AV.int .i64 0)) fun v11 => .ite v11 (.fin [.val (AV.int .i64 (-1))]) (.op (.bin 0 .add (g vs4 1) (AV.int .i64 1)) fun v12 => .leaf 0 [v10, v12])) (.leaf 2 [g vs4 0, g vs4 1])) fun t5 vs4 => tsel t5 1 (.leaf 1 vs4) (tsel t5 2 (.fin [.val (g vs4 0)]) .bad))
theorem c_laws_szTaskS (x0 x1 : AV) : CC Tryz.prog n_laws_szTaskS [x0, x1] (p_laws_szTaskS x0 x1) := cc Tryz.func39 [0, 1, 5] (fun _ => []) (by kernel_rfl)
end
theorem s_laws_toTaskS (xs : List Task) (hs : xs.length + szs xs ≤ 1048576) : CopyL Tryz.prog n_laws_toTaskS xs := copyL_of rfl rfl (by decide) hs (fun x hx => s_laws_toTask x hx) (fun g => c_laws_toTaskS _ g)
theorem s_laws_eqTaskS : EqS Task Tryz.prog n_laws_eqTaskS := fun xs v v' F F' h r r' => reader (c_laws_eqTaskS _ _) (by simp only [old]) (eqS_spec rfl s_laws_eqTask r r')
theorem s_laws_szTaskS : SzL Task Tryz.prog n_laws_szTaskS := fun xs ok v F b h r h0 h1 => reader (c_laws_szTaskS _ _) (by simp only [old]) (szS_spec rfl s_laws_szTask ok r h0 h1)
end Go.Proofs.YtjnekdbdmoibgaaGreat
end
section
/- Deed: copies, comparisons, sizes. Written by mkl.py. -/
set_option linter.unusedSimpArgs false
set_option linter.unusedVariables false
set_option maxHeartbeats 1000000
namespace Go.Proofs.YtjnekdbdmoibgaaGreat
open Go Go.Ab
section
/- laws.toDeed -/
def p_laws_toDeed (x0 : AV) : Prog := .op (.box x0) fun v1 => .op (.alloc z20_1ff) fun v2 => .op (.alloc z20_1ff) fun v3 => .op (.fad 0 v1) fun v4 => .op (.ld1 v4) fun v5 => .op (.fad 0 v3) fun v6 => .op (.st 1 v6 v5) fun v7 => .op (.fad 1 v1) fun v8 => .op (.ld1 v8) fun v9 => .op (.fad 1 v3) fun v10 => .op (.st 1 v10 v9) fun v11 => .op (.fad 2 v1) fun v12 => .op (.ldn 6 v12) fun v13 => .op (.call n_laws_toSpan [v13]) fun v14 => .op (.fad 2 v3) fun v15 => .op (.st 6 v15 v14) fun v16 => .op (.fad 8 v1) fun v17 => .op (.ld1 v17) fun v18 => .op (.fad 8 v3) fun v19 => .op (.st 1 v19 v18) fun v20 => .op (.fad 9 v1) fun v21 => .op (.ld1 v21) fun v22 => .op (.fad 9 v3) fun v23 => .op (.st 1 v23 v22) fun v24 => .op (.fad 10 v1) fun v25 => .op (.ld1 v25) fun v26 => .op (.fad 10 v3) fun v27 => .op (.st 1 v27 v26) fun v28 => .op (.fad 11 v1) fun v29 => .op (.ld1 v29) fun v30 => .op (.fad 11 v3) fun v31 => .op (.st 1 v31 v30) fun v32 => .op (.fad 12 v1) fun v33 => .op (.ld1 v33) fun v34 => .op (.fad 12 v3) fun v35 => .op (.st 1 v35 v34) fun v36 => .op (.fad 13 v1) fun v37 => .op (.ld1 v37) fun v38 => .op (.fad 13 v3) fun v39 => .op (.st 1 v39 v38) fun v40 => .op (.fad 14 v1) fun v41 => .op (.ld1 v41) fun v42 => .op (.fad 14 v3) fun v43 => .op (.st 1 v43 v42) fun v44 => .op (.fad 15 v1) fun v45 => .op (.ld1 v45) fun v46 => .op (.fad 15 v3) fun v47 => .op (.st 1 v47 v46) fun v48 => .op (.fad 16 v1) fun v49 => .op (.ld1 v49) fun v50 => .op (.fad 16 v3) fun v51 => .op (.st 1 v51 v50) fun v52 => .op (.fad 17 v1) fun v53 => .op (.ld1 v53) fun v54 => .op (.fad 17 v3) fun v55 => .op (.st 1 v55 v54) fun v56 => .op (.fad 18 v1) fun v57 => .op (.ld1 v57) fun v58 => .op (.fad 18 v3) fun v59 => .op (.st 1 v59 v58) fun v60 => .op (.fad 19 v1) fun v61 => .op (.ld1 v61) fun v62 => .op (.fad 19 v3) fun v63 => .op (.st 1 v63 v62) fun v64 => .op (.ldn 20 v3) fun v65 => .op (.st 20 v2 v65) fun v66 => .fin [.cn 20 v2]
theorem c_laws_toDeed (x0 : AV) : CC Tryz.prog n_laws_toDeed [x0] (p_laws_toDeed x0) := cc Tryz.func134 [] (fun _ => []) (by kernel_rfl)
/- laws.eqDeed -/
def p_laws_eqDeed (x0 x1 : AV) : Prog := .op (.box x0) fun v1 => .op (.box x1) fun v2 => .op (.fad 0 v1) fun v3 => .op (.ld1 v3) fun v4 => .op (.fad 0 v2) fun v5 => .op (.ld1 v5) fun v6 => .op (.bin 0 .neq v4 v6) fun v7 => .ite v7 (.fin [.val (AV.bool false)]) (.op (.fad 1 v1) fun v8 => .op (.ld1 v8) fun v9 => .op (.fad 1 v2) fun v10 => .op (.ld1 v10) fun v11 => .op (.bin 0 .neq v9 v11) fun v12 => .ite v12 (.fin [.val (AV.bool false)]) (.op (.fad 2 v1) fun v13 => .op (.ldn 6 v13) fun v14 => .op (.fad 2 v2) fun v15 => .op (.ldn 6 v15) fun v16 => .op (.call n_laws_eqSpan [v14, v16]) fun v17 => .op (.una .not v17) fun v18 => .ite v18 (.fin [.val (AV.bool false)]) (.op (.fad 8 v1) fun v19 => .op (.ld1 v19) fun v20 => .op (.fad 8 v2) fun v21 => .op (.ld1 v21) fun v22 => .op (.bin 0 .neq v20 v22) fun v23 => .ite v23 (.fin [.val (AV.bool false)]) (.op (.fad 9 v1) fun v24 => .op (.ld1 v24) fun v25 => .op (.fad 9 v2) fun v26 => .op (.ld1 v26) fun v27 => .op (.bin 0 .neq v25 v27) fun v28 => .ite v28 (.fin [.val (AV.bool false)]) (.op (.fad 10 v1) fun v29 => .op (.ld1 v29) fun v30 => .op (.fad 10 v2) fun v31 => .op (.ld1 v31) fun v32 => .op (.bin 0 .neq v30 v32) fun v33 => .ite v33 (.fin [.val (AV.bool false)]) (.op (.fad 11 v1) fun v34 => .op (.ld1 v34) fun v35 => .op (.fad 11 v2) fun v36 => .op (.ld1 v36) fun v37 => .op (.bin 2 .neq v35 v37) fun v38 => .ite v38 (.fin [.val (AV.bool false)]) (.op (.fad 12 v1) fun v39 => .op (.ld1 v39) fun v40 => .op (.fad 12 v2) fun v41 => .op (.ld1 v41) fun v42 => .op (.bin 2 .neq v40 v42) fun v43 => .ite v43 (.fin [.val (AV.bool false)]) (.op (.fad 13 v1) fun v44 => .op (.ld1 v44) fun v45 => .op (.fad 13 v2) fun v46 => .op (.ld1 v46) fun v47 => .op (.bin 0 .neq v45 v47) fun v48 => .ite v48 (.fin [.val (AV.bool false)]) (.op (.fad 14 v1) fun v49 => .op (.ld1 v49) fun v50 => .op (.fad 14 v2) fun v51 => .op (.ld1 v51) fun v52 => .op (.bin 0 .neq v50 v52) fun v53 => .ite v53 (.fin [.val (AV.bool false)]) (.op (.fad 15 v1) fun v54 => .op (.ld1 v54) fun v55 => .op (.fad 15 v2) fun v56 => .op (.ld1 v56) fun v57 => .op (.bin 0 .neq v55 v57) fun v58 => .ite v58 (.fin [.val (AV.bool false)]) (.op (.fad 16 v1) fun v59 => .op (.ld1 v59) fun v60 => .op (.fad 16 v2) fun v61 => .op (.ld1 v61) fun v62 => .op (.bin 0 .neq v60 v62) fun v63 => .ite v63 (.fin [.val (AV.bool false)]) (.op (.fad 17 v1) fun v64 => .op (.ld1 v64) fun v65 => .op (.fad 17 v2) fun v66 => .op (.ld1 v66) fun v67 => .op (.bin 0 .neq v65 v67) fun v68 => .ite v68 (.fin [.val (AV.bool false)]) (.op (.fad 18 v1) fun v69 => .op (.ld1 v69) fun v70 => .op (.fad 18 v2) fun v71 => .op (.ld1 v71) fun v72 => .op (.bin 0 .neq v70 v72) fun v73 => .ite v73 (.fin [.val (AV.bool false)]) (.op (.fad 19 v1) fun v74 => .op (.ld1 v74) fun v75 => .op (.fad 19 v2) fun v76 => .op (.ld1 v76) fun v77 => .op (.bin 0 .neq v75 v77) fun v78 => .ite v78 (.fin [.val (AV.bool false)]) (.fin [.val (AV.bool true)])))))))))))))))
theorem c_laws_eqDeed (x0 x1 : AV) : CC Tryz.prog n_laws_eqDeed [x0, x1] (p_laws_eqDeed x0 x1) := cc Tryz.func158 [] (fun _ => []) (by kernel_rfl)
/- laws.szDeed -/
def p_laws_szDeed (x0 x1 : AV) : Prog := .op (.box x0) fun v1 => .op (.fad 2 v1) fun v2 => .op (.ldn 6 v2) fun v3 => .op (.call n_laws_szSpan [v3, x1]) fun v4 => .op (.bin 0 .lss v4 (AV.int .i64 0)) fun v5 => .ite v5 (.fin [.val (AV.int .i64 (-1))]) (.fin [.val v4])
theorem c_laws_szDeed (x0 x1 : AV) : CC Tryz.prog n_laws_szDeed [x0, x1] (p_laws_szDeed x0 x1) := cc Tryz.func106 [] (fun _ => []) (by kernel_rfl)
end
theorem s_laws_toDeed (x : Deed) (hs : Sz.sz x ≤ 1048576) : CopyX Deed Tryz.prog n_laws_toDeed x := by
  rintro cs F h ⟨v0, rfl, r0⟩
  have hs : Sz.sz x.s ≤ 1048576 := hs
  have e_s : Sz.sz x.s = (x.s.attrs.length + szs x.s.attrs) := rfl
  refine c_laws_toDeed _ ?_
  unfold p_laws_toDeed
  (repeat' first|refine vs ?_|(refine br ?_ ?_<;>intro _<;>try(exfalso;first|omega|contradiction))|((with_reducible refine g_callf n_laws_toSpan ?_);(refine aw_call (s_laws_toSpan _ om_auto _ _ _ ⟨_, rfl, slr_auto⟩) ?_; rintro _ _ ⟨e_, _, _, rfl, ⟨_, rfl, _⟩, _⟩; have n_ := e_.1; (try simp only [push_n, upd_n] at n_)))|((with_reducible refine g_idx ?_);((first|refine ix ?_|refine ixi ?_|(refine ixg ?_;intro _ _)|(refine ixgi ?_;intro _ _));first|rintro _ _ _ _ _ ⟨rfl,rfl⟩ _|rintro _ _ _ _ _ ⟨_,rfl,_⟩ _|rintro _ _ _ _ _ ⟨_,_,_,_,rfl,rfl,_,_⟩ _|intro _ _ _ _ _ _ _))|(refine sx ?_;intro _ _)|((with_reducible refine g_awp ?_);simp only [g0,g1,g2]))
  exact ⟨rfl, _, rfl, ext_auto, _, _, rfl, ⟨_, rfl, slr_auto⟩, ol_auto⟩
theorem s_laws_eqDeed : EqC Deed Tryz.prog n_laws_eqDeed := by
  rintro x cs cs' F F' h ⟨v0, rfl, r0⟩ ⟨u0, rfl, q0⟩
  refine reader (c_laws_eqDeed _ _) (by simp only [old]) ?_
  unfold p_laws_eqDeed
  (repeat' first|refine vs ?_|(refine br ?_ ?_<;>intro _<;>try(exfalso;first|omega|contradiction))|((with_reducible refine g_callf n_laws_eqSpan ?_);refine aw_rcall (s_laws_eqSpan _ _ _ _ _ _ ⟨_, rfl, slr_auto⟩ ⟨_, rfl, slr_auto⟩) ?_)|((with_reducible refine g_idx ?_);((first|refine ix ?_|refine ixi ?_|(refine ixg ?_;intro _ _)|(refine ixgi ?_;intro _ _));first|rintro _ _ _ _ _ ⟨rfl,rfl⟩ _|rintro _ _ _ _ _ ⟨_,rfl,_⟩ _|rintro _ _ _ _ _ ⟨_,_,_,_,rfl,rfl,_,_⟩ _|intro _ _ _ _ _ _ _))|(refine sx ?_;intro _ _)|((with_reducible refine g_awp ?_);simp only [g0,g1,g2]))
  exact pb rfl
theorem s_laws_szDeed : SzC Deed Tryz.prog n_laws_szDeed := by
  rintro x ok cs F b h ⟨v0, rfl, r0⟩ h0 h1
  obtain ⟨ok_op, ok_task, ok_s, ok_trace, ok_stamp, ok_code, ok_took, ok_n, ok_forgot, ok_now, ok_inv, ok_lin, ok_res⟩ := ok
  have hS : Sz.sz x = Sz.sz x.s := rfl
  have e_s : Sz.sz x.s = (x.s.attrs.length + szs x.s.attrs) := rfl
  refine reader (c_laws_szDeed _ _) (by simp only [old]) ?_
  unfold p_laws_szDeed
  (repeat' first|refine vs ?_|(refine br ?_ ?_<;>intro _<;>try(exfalso;first|omega|contradiction))|((with_reducible refine g_callf n_laws_szSpan ?_);(refine aw_sz (s_laws_szSpan _ (by assumption) _ _ _ _ ⟨_, rfl, slr_auto⟩ om_auto om_auto) (fun _ => ?_) (fun _ => ?_)))|((with_reducible refine g_idx ?_);((first|refine ix ?_|refine ixi ?_|(refine ixg ?_;intro _ _)|(refine ixgi ?_;intro _ _));first|rintro _ _ _ _ _ ⟨rfl,rfl⟩ _|rintro _ _ _ _ _ ⟨_,rfl,_⟩ _|rintro _ _ _ _ _ ⟨_,_,_,_,rfl,rfl,_,_⟩ _|intro _ _ _ _ _ _ _))|(refine sx ?_;intro _ _)|((with_reducible refine g_awp ?_);simp only [g0,g1,g2]))
  all_goals (refine pi ?_; unfold szr; split <;> omega)
end Go.Proofs.YtjnekdbdmoibgaaGreat
end
section
/- Deed: copies, comparisons, sizes. Written by mkl.py. -/
set_option linter.unusedSimpArgs false
set_option linter.unusedVariables false
set_option maxHeartbeats 1000000
namespace Go.Proofs.YtjnekdbdmoibgaaGreat
open Go Go.Ab
section
/- laws.toDeedS -/
def p_laws_toDeedS (x0 : AV) : Prog := .op (.len 0 x0) fun v1 => .op (.mksl 20 168 z20_1ff v1 v1) fun v2 => .loop [AV.int .i64 0] (fun vs3 => .op (.len 0 x0) fun v5 => .op (.bin 0 .lss (g vs3 0) v5) fun v6 => .ite v6 (.op (.idx 20 x0 (g vs3 0)) fun v7 => .op (.ldn 20 v7) fun v8 => .op (.call n_laws_toDeed [v8]) fun v9 => .op (.idx 20 v2 (g vs3 0)) fun v10 => .op (.st 20 v10 v9) fun v11 => .op (.bin 0 .add (g vs3 0) (AV.int .i64 1)) fun v12 => .leaf 0 [v12]) (.leaf 2 [g vs3 0])) fun t4 vs3 => tsel t4 1 (.leaf 1 vs3) (tsel t4 2 (.fin [.val v2]) .bad)
theorem c_laws_toDeedS (x0 : AV) : CC Tryz.prog n_laws_toDeedS [x0] (p_laws_toDeedS x0) := cc Tryz.func53 [0, 3, 4] (fun _ => []) (by kernel_rfl)
/- laws.eqDeedS -/
def p_laws_eqDeedS (x0 x1 : AV) : Prog := .op (.len 0 x0) fun v1 => .op (.len 0 x1) fun v2 => .op (.bin 0 .neq v1 v2) fun v3 => .ite v3 (.fin [.val (AV.bool false)]) (.loop [AV.int .i64 0] (fun vs4 => .op (.len 0 x0) fun v6 => .op (.bin 0 .lss (g vs4 0) v6) fun v7 => .ite v7 (.op (.idx 20 x0 (g vs4 0)) fun v8 => .op (.ldn 20 v8) fun v9 => .op (.idx 20 x1 (g vs4 0)) fun v10 => .op (.ldn 20 v10) fun v11 => .op (.call n_laws_eqDeed [v9, v11]) fun v12 => .op (.una .not v12) fun v13 => .ite v13 (.fin [.val (AV.bool false)]) (.op (.bin 0 .add (g vs4 0) (AV.int .i64 1)) fun v14 => .leaf 0 [v14])) (.leaf 2 [g vs4 0])) fun t5 vs4 => tsel t5 1 (.leaf 1 vs4) (tsel t5 2 (.fin [.val (AV.bool true)]) .bad))
theorem c_laws_eqDeedS (x0 x1 : AV) : CC Tryz.prog n_laws_eqDeedS [x0, x1] (p_laws_eqDeedS x0 x1) := cc Tryz.func68 [0, 1, 5] (fun r => if r = 6 then [(0, []), (1, []), (2, []), (3, []), (4, []), (5, []), (6, []), (7, []), (8, []), (9, [])] else []) (by kernel_rfl)
/- laws.szDeedS -/
def p_laws_szDeedS (x0 x1 : AV) : Prog := .op (.len 0 x0) fun v1 => .op (.bin 0 .sub x1 v1) fun v2 => .op (.bin 0 .lss v2 (AV.int .i64 0)) fun v3 => .ite v3 (.fin [.val (AV.int .i64 (-1))]) (.loop [v2, AV.int .i64 0] (fun vs4 => .op (.len 0 x0) fun v6 => .op (.bin 0 .lss (g vs4 1) v6) fun v7 => .ite v7 (.op (.idx 20 x0 (g vs4 1)) fun v8 => .op (.ldn 20 v8) fun v9 => .op (.call n_laws_szDeed [v9, g vs4 0]) fun v10 => .op (.bin 0 .lss v10 (AV.int .i64 0)) fun v11 => .ite v11 (.fin [.val (AV.int .i64 (-1))]) (.op (.bin 0 .add (g vs4 1) (AV.int .i64 1)) fun v12 => .leaf 0 [v10, v12])) (.leaf 2 [g vs4 0, g vs4 1])) fun t5 vs4 => tsel t5 1 (.leaf 1 vs4) (tsel t5 2 (.fin [.val (g vs4 0)]) .bad))
theorem c_laws_szDeedS (x0 x1 : AV) : CC Tryz.prog n_laws_szDeedS [x0, x1] (p_laws_szDeedS x0 x1) := cc Tryz.func40 [0, 1, 5] (fun _ => []) (by kernel_rfl)
end
theorem s_laws_toDeedS (xs : List Deed) (hs : xs.length + szs xs ≤ 1048576) : CopyL Tryz.prog n_laws_toDeedS xs := copyL_of rfl rfl (by decide) hs (fun x hx => s_laws_toDeed x hx) (fun g => c_laws_toDeedS _ g)
theorem s_laws_eqDeedS : EqS Deed Tryz.prog n_laws_eqDeedS := fun xs v v' F F' h r r' => reader (c_laws_eqDeedS _ _) (by simp only [old]) (eqS_spec rfl s_laws_eqDeed r r')
theorem s_laws_szDeedS : SzL Deed Tryz.prog n_laws_szDeedS := fun xs ok v F b h r h0 h1 => reader (c_laws_szDeedS _ _) (by simp only [old]) (szS_spec rfl s_laws_szDeed ok r h0 h1)
end Go.Proofs.YtjnekdbdmoibgaaGreat
end
section
/- Timer: copies, comparisons, sizes. Written by mkl.py. -/
set_option linter.unusedSimpArgs false
set_option linter.unusedVariables false
set_option maxHeartbeats 1000000
namespace Go.Proofs.YtjnekdbdmoibgaaGreat
open Go Go.Ab
section
/- laws.toTimerSS -/
def p_laws_toTimerSS (x0 : AV) : Prog := .op (.len 0 x0) fun v1 => .op (.mksl 1 24 [AV.nils] v1 v1) fun v2 => .loop [AV.int .i64 0] (fun vs3 => .op (.len 0 x0) fun v5 => .op (.bin 0 .lss (g vs3 0) v5) fun v6 => .ite v6 (.op (.idx 1 x0 (g vs3 0)) fun v7 => .op (.ld1 v7) fun v8 => .op (.call n_laws_toTimerS [v8]) fun v9 => .op (.idx 1 v2 (g vs3 0)) fun v10 => .op (.st 1 v10 v9) fun v11 => .op (.bin 0 .add (g vs3 0) (AV.int .i64 1)) fun v12 => .leaf 0 [v12]) (.leaf 2 [g vs3 0])) fun t4 vs3 => tsel t4 1 (.leaf 1 vs3) (tsel t4 2 (.fin [.val v2]) .bad)
theorem c_laws_toTimerSS (x0 : AV) : CC Tryz.prog n_laws_toTimerSS [x0] (p_laws_toTimerSS x0) := cc Tryz.func130 [0, 3, 4] (fun _ => []) (by kernel_rfl)
/- laws.eqTimerSS -/
def p_laws_eqTimerSS (x0 x1 : AV) : Prog := .op (.len 0 x0) fun v1 => .op (.len 0 x1) fun v2 => .op (.bin 0 .neq v1 v2) fun v3 => .ite v3 (.fin [.val (AV.bool false)]) (.loop [AV.int .i64 0] (fun vs4 => .op (.len 0 x0) fun v6 => .op (.bin 0 .lss (g vs4 0) v6) fun v7 => .ite v7 (.op (.idx 1 x0 (g vs4 0)) fun v8 => .op (.ld1 v8) fun v9 => .op (.idx 1 x1 (g vs4 0)) fun v10 => .op (.ld1 v10) fun v11 => .op (.call n_laws_eqTimerS [v9, v11]) fun v12 => .op (.una .not v12) fun v13 => .ite v13 (.fin [.val (AV.bool false)]) (.op (.bin 0 .add (g vs4 0) (AV.int .i64 1)) fun v14 => .leaf 0 [v14])) (.leaf 2 [g vs4 0])) fun t5 vs4 => tsel t5 1 (.leaf 1 vs4) (tsel t5 2 (.fin [.val (AV.bool true)]) .bad))
theorem c_laws_eqTimerSS (x0 x1 : AV) : CC Tryz.prog n_laws_eqTimerSS [x0, x1] (p_laws_eqTimerSS x0 x1) := cc Tryz.func154 [0, 1, 5] (fun r => if r = 6 then [(0, []), (1, []), (2, []), (3, []), (4, []), (5, []), (6, []), (7, []), (8, []), (9, [])] else []) (by kernel_rfl)
/- laws.szTimerSS -/
def p_laws_szTimerSS (x0 x1 : AV) : Prog := .op (.len 0 x0) fun v1 => .op (.bin 0 .sub x1 v1) fun v2 => .op (.bin 0 .lss v2 (AV.int .i64 0)) fun v3 => .ite v3 (.fin [.val (AV.int .i64 (-1))]) (.loop [v2, AV.int .i64 0] (fun vs4 => .op (.len 0 x0) fun v6 => .op (.bin 0 .lss (g vs4 1) v6) fun v7 => .ite v7 (.op (.idx 1 x0 (g vs4 1)) fun v8 => .op (.ld1 v8) fun v9 => .op (.call n_laws_szTimerS [v9, g vs4 0]) fun v10 => .op (.bin 0 .lss v10 (AV.int .i64 0)) fun v11 => .ite v11 (.fin [.val (AV.int .i64 (-1))]) (.op (.bin 0 .add (g vs4 1) (AV.int .i64 1)) fun v12 => .leaf 0 [v10, v12])) (.leaf 2 [g vs4 0, g vs4 1])) fun t5 vs4 => tsel t5 1 (.leaf 1 vs4) (tsel t5 2 (.fin [.val (g vs4 0)]) .bad))
theorem c_laws_szTimerSS (x0 x1 : AV) : CC Tryz.prog n_laws_szTimerSS [x0, x1] (p_laws_szTimerSS x0 x1) := cc Tryz.func103 [0, 1, 5] (fun _ => []) (by kernel_rfl)
/- laws.toTimer -/
def p_laws_toTimer (x0 : AV) : Prog := .op (.box x0) fun v1 => .op (.alloc [AV.int .i64 0, AV.int .i64 0, AV.int .i64 0]) fun v2 => .op (.alloc [AV.int .i64 0, AV.int .i64 0, AV.int .i64 0]) fun v3 => .op (.fad 0 v1) fun v4 => .op (.ld1 v4) fun v5 => .op (.fad 0 v3) fun v6 => .op (.st 1 v6 v5) fun v7 => .op (.fad 1 v1) fun v8 => .op (.ld1 v8) fun v9 => .op (.fad 1 v3) fun v10 => .op (.st 1 v10 v9) fun v11 => .op (.fad 2 v1) fun v12 => .op (.ld1 v12) fun v13 => .op (.fad 2 v3) fun v14 => .op (.st 1 v14 v13) fun v15 => .op (.ldn 3 v3) fun v16 => .op (.st 3 v2 v16) fun v17 => .fin [.cn 3 v2]
theorem c_laws_toTimer (x0 : AV) : CC Tryz.prog n_laws_toTimer [x0] (p_laws_toTimer x0) := cc Tryz.func131 [] (fun _ => []) (by kernel_rfl)
/- laws.eqTimer -/
def p_laws_eqTimer (x0 x1 : AV) : Prog := .op (.box x0) fun v1 => .op (.box x1) fun v2 => .op (.fad 0 v1) fun v3 => .op (.ld1 v3) fun v4 => .op (.fad 0 v2) fun v5 => .op (.ld1 v5) fun v6 => .op (.bin 0 .neq v4 v6) fun v7 => .ite v7 (.fin [.val (AV.bool false)]) (.op (.fad 1 v1) fun v8 => .op (.ld1 v8) fun v9 => .op (.fad 1 v2) fun v10 => .op (.ld1 v10) fun v11 => .op (.bin 0 .neq v9 v11) fun v12 => .ite v12 (.fin [.val (AV.bool false)]) (.op (.fad 2 v1) fun v13 => .op (.ld1 v13) fun v14 => .op (.fad 2 v2) fun v15 => .op (.ld1 v15) fun v16 => .op (.bin 0 .neq v14 v16) fun v17 => .ite v17 (.fin [.val (AV.bool false)]) (.fin [.val (AV.bool true)])))
theorem c_laws_eqTimer (x0 x1 : AV) : CC Tryz.prog n_laws_eqTimer [x0, x1] (p_laws_eqTimer x0 x1) := cc Tryz.func155 [] (fun _ => []) (by kernel_rfl)
/- laws.toTimerS -/
def p_laws_toTimerS (x0 : AV) : Prog := .op (.len 0 x0) fun v1 => .op (.mksl 3 24 [AV.int .i64 0, AV.int .i64 0, AV.int .i64 0] v1 v1) fun v2 => .loop [AV.int .i64 0] (fun vs3 => .op (.len 0 x0) fun v5 => .op (.bin 0 .lss (g vs3 0) v5) fun v6 => .ite v6 (.op (.idx 3 x0 (g vs3 0)) fun v7 => .op (.ldn 3 v7) fun v8 => .op (.call n_laws_toTimer [v8]) fun v9 => .op (.idx 3 v2 (g vs3 0)) fun v10 => .op (.st 3 v10 v9) fun v11 => .op (.bin 0 .add (g vs3 0) (AV.int .i64 1)) fun v12 => .leaf 0 [v12]) (.leaf 2 [g vs3 0])) fun t4 vs3 => tsel t4 1 (.leaf 1 vs3) (tsel t4 2 (.fin [.val v2]) .bad)
theorem c_laws_toTimerS (x0 : AV) : CC Tryz.prog n_laws_toTimerS [x0] (p_laws_toTimerS x0) := cc Tryz.func50 [0, 3, 4] (fun _ => []) (by kernel_rfl)
/- laws.eqTimerS -/
def p_laws_eqTimerS (x0 x1 : AV) : Prog := .op (.len 0 x0) fun v1 => .op (.len 0 x1) fun v2 => .op (.bin 0 .neq v1 v2) fun v3 => .ite v3 (.fin [.val (AV.bool false)]) (.loop [AV.int .i64 0] (fun vs4 => .op (.len 0 x0) fun v6 => .op (.bin 0 .lss (g vs4 0) v6) fun v7 => .ite v7 (.op (.idx 3 x0 (g vs4 0)) fun v8 => .op (.ldn 3 v8) fun v9 => .op (.idx 3 x1 (g vs4 0)) fun v10 => .op (.ldn 3 v10) fun v11 => .op (.call n_laws_eqTimer [v9, v11]) fun v12 => .op (.una .not v12) fun v13 => .ite v13 (.fin [.val (AV.bool false)]) (.op (.bin 0 .add (g vs4 0) (AV.int .i64 1)) fun v14 => .leaf 0 [v14])) (.leaf 2 [g vs4 0])) fun t5 vs4 => tsel t5 1 (.leaf 1 vs4) (tsel t5 2 (.fin [.val (AV.bool true)]) .bad))
theorem c_laws_eqTimerS (x0 x1 : AV) : CC Tryz.prog n_laws_eqTimerS [x0, x1] (p_laws_eqTimerS x0 x1) := cc Tryz.func65 [0, 1, 5] (fun r => if r = 6 then [(0, []), (1, []), (2, []), (3, []), (4, []), (5, []), (6, []), (7, []), (8, []), (9, [])] else []) (by kernel_rfl)
/- laws.szTimerS -/
def p_laws_szTimerS (x0 x1 : AV) : Prog := .op (.len 0 x0) fun v1 => .op (.bin 0 .sub x1 v1) fun v2 => .op (.bin 0 .lss v2 (AV.int .i64 0)) fun v3 => .ite v3 (.fin [.val (AV.int .i64 (-1))]) (.fin [.val v2])
theorem c_laws_szTimerS (x0 x1 : AV) : CC Tryz.prog n_laws_szTimerS [x0, x1] (p_laws_szTimerS x0 x1) := cc Tryz.func37 [] (fun _ => []) (by kernel_rfl)
end
theorem s_laws_toTimer (x : Ab.Timer) (hs : Sz.sz x ≤ 1048576) : CopyX Ab.Timer Tryz.prog n_laws_toTimer x := by
  rintro cs F h ⟨rfl, rfl⟩
  have hs : 0 ≤ 1048576 := hs
  refine c_laws_toTimer _ ?_
  unfold p_laws_toTimer
  (repeat' first|refine vs ?_|(refine br ?_ ?_<;>intro _<;>try(exfalso;first|omega|contradiction))|((with_reducible refine g_idx ?_);((first|refine ix ?_|refine ixi ?_|(refine ixg ?_;intro _ _)|(refine ixgi ?_;intro _ _));first|rintro _ _ _ _ _ ⟨rfl,rfl⟩ _|rintro _ _ _ _ _ ⟨_,rfl,_⟩ _|rintro _ _ _ _ _ ⟨_,_,_,_,rfl,rfl,_,_⟩ _|intro _ _ _ _ _ _ _))|(refine sx ?_;intro _ _)|((with_reducible refine g_awp ?_);simp only [g0,g1,g2]))
  exact ⟨rfl, _, rfl, ext_auto, _, _, rfl, ⟨rfl, rfl⟩, Own.nil⟩
theorem s_laws_eqTimer : EqC Ab.Timer Tryz.prog n_laws_eqTimer := by
  rintro x cs cs' F F' h ⟨rfl, rfl⟩ ⟨rfl, rfl⟩
  refine reader (c_laws_eqTimer _ _) (by simp only [old]) ?_
  unfold p_laws_eqTimer
  (repeat' first|refine vs ?_|(refine br ?_ ?_<;>intro _<;>try(exfalso;first|omega|contradiction))|((with_reducible refine g_idx ?_);((first|refine ix ?_|refine ixi ?_|(refine ixg ?_;intro _ _)|(refine ixgi ?_;intro _ _));first|rintro _ _ _ _ _ ⟨rfl,rfl⟩ _|rintro _ _ _ _ _ ⟨_,rfl,_⟩ _|rintro _ _ _ _ _ ⟨_,_,_,_,rfl,rfl,_,_⟩ _|intro _ _ _ _ _ _ _))|(refine sx ?_;intro _ _)|((with_reducible refine g_awp ?_);simp only [g0,g1,g2]))
  exact pb rfl
theorem s_laws_toTimerS (xs : List Ab.Timer) (hs : xs.length + szs xs ≤ 1048576) : CopyL Tryz.prog n_laws_toTimerS xs := copyL_of rfl rfl (by decide) hs (fun x hx => s_laws_toTimer x hx) (fun g => c_laws_toTimerS _ g)
theorem s_laws_eqTimerS : EqS Ab.Timer Tryz.prog n_laws_eqTimerS := fun xs v v' F F' h r r' => reader (c_laws_eqTimerS _ _) (by simp only [old]) (eqS_spec rfl s_laws_eqTimer r r')
theorem s_laws_szTimerS : SzL Ab.Timer Tryz.prog n_laws_szTimerS := fun xs _ v F b h r h0 h1 => reader (c_laws_szTimerS _ _) (by simp only [old]) (by have := szF_spec (P := Tryz.prog) r h0 h1; rw [szs_zero (fun _ => rfl)]; exact this)
theorem s_laws_toTimerSS (xs : List (List Ab.Timer)) (hs : xs.length + szs xs ≤ 1048576) : CopyL Tryz.prog n_laws_toTimerSS xs := fun v F h r => c_laws_toTimerSS _ (toSS_spec (w := 1) rfl rfl rfl (fun x hx => s_laws_toTimerS x (by have := szs_mem hx; have h2 : Sz.sz x = x.length + szs x := rfl; omega)) r (by omega))
theorem s_laws_eqTimerSS : EqS (List Ab.Timer) Tryz.prog n_laws_eqTimerSS := fun xs v v' F F' h r r' => reader (c_laws_eqTimerSS _ _) (by simp only [old]) (eqSS_spec s_laws_eqTimerS r r')
theorem s_laws_szTimerSS : SzL (List Ab.Timer) Tryz.prog n_laws_szTimerSS := fun xs ok v F b h r h0 h1 => reader (c_laws_szTimerSS _ _) (by simp only [old]) (szSS_spec s_laws_szTimerS ok r h0 h1)
end Go.Proofs.YtjnekdbdmoibgaaGreat
end
section
/- Wheel: copies, comparisons, sizes. Written by mkl.py. -/
set_option linter.unusedSimpArgs false
set_option linter.unusedVariables false
set_option maxHeartbeats 1000000
namespace Go.Proofs.YtjnekdbdmoibgaaGreat
open Go Go.Ab
section
/- laws.toWheel -/
def p_laws_toWheel (x0 : AV) : Prog := .op (.box x0) fun v1 => .op (.alloc [AV.int .i64 0, AV.nils, AV.nils, AV.nils]) fun v2 => .op (.alloc [AV.int .i64 0, AV.nils, AV.nils, AV.nils]) fun v3 => .op (.fad 0 v1) fun v4 => .op (.ld1 v4) fun v5 => .op (.fad 0 v3) fun v6 => .op (.st 1 v6 v5) fun v7 => .op (.fad 1 v1) fun v8 => .op (.ld1 v8) fun v9 => .op (.call n_laws_toTimerSS [v9]) fun v10 => .op (.fad 1 v3) fun v11 => .op (.st 1 v11 v10) fun v12 => .op (.fad 2 v1) fun v13 => .op (.ld1 v13) fun v14 => .op (.call n_laws_toTimerSS [v14]) fun v15 => .op (.fad 2 v3) fun v16 => .op (.st 1 v16 v15) fun v17 => .op (.fad 3 v1) fun v18 => .op (.ld1 v18) fun v19 => .op (.call n_laws_toTimerS [v19]) fun v20 => .op (.fad 3 v3) fun v21 => .op (.st 1 v21 v20) fun v22 => .op (.ldn 4 v3) fun v23 => .op (.st 4 v2 v23) fun v24 => .fin [.cn 4 v2]
theorem c_laws_toWheel (x0 : AV) : CC Tryz.prog n_laws_toWheel [x0] (p_laws_toWheel x0) := cc Tryz.func49 [] (fun _ => []) (by kernel_rfl)
/- laws.eqWheel -/
def p_laws_eqWheel (x0 x1 : AV) : Prog := .op (.box x0) fun v1 => .op (.box x1) fun v2 => .op (.fad 0 v1) fun v3 => .op (.ld1 v3) fun v4 => .op (.fad 0 v2) fun v5 => .op (.ld1 v5) fun v6 => .op (.bin 0 .neq v4 v6) fun v7 => .ite v7 (.fin [.val (AV.bool false)]) (.op (.fad 1 v1) fun v8 => .op (.ld1 v8) fun v9 => .op (.fad 1 v2) fun v10 => .op (.ld1 v10) fun v11 => .op (.call n_laws_eqTimerSS [v9, v11]) fun v12 => .op (.una .not v12) fun v13 => .ite v13 (.fin [.val (AV.bool false)]) (.op (.fad 2 v1) fun v14 => .op (.ld1 v14) fun v15 => .op (.fad 2 v2) fun v16 => .op (.ld1 v16) fun v17 => .op (.call n_laws_eqTimerSS [v15, v17]) fun v18 => .op (.una .not v18) fun v19 => .ite v19 (.fin [.val (AV.bool false)]) (.op (.fad 3 v1) fun v20 => .op (.ld1 v20) fun v21 => .op (.fad 3 v2) fun v22 => .op (.ld1 v22) fun v23 => .op (.call n_laws_eqTimerS [v21, v23]) fun v24 => .op (.una .not v24) fun v25 => .ite v25 (.fin [.val (AV.bool false)]) (.fin [.val (AV.bool true)]))))
theorem c_laws_eqWheel (x0 x1 : AV) : CC Tryz.prog n_laws_eqWheel [x0, x1] (p_laws_eqWheel x0 x1) := cc Tryz.func64 [] (fun _ => []) (by kernel_rfl)
/- laws.szWheel -/
def p_laws_szWheel (x0 x1 : AV) : Prog := .op (.box x0) fun v1 => .op (.fad 1 v1) fun v2 => .op (.ld1 v2) fun v3 => .op (.call n_laws_szTimerSS [v3, x1]) fun v4 => .op (.bin 0 .lss v4 (AV.int .i64 0)) fun v5 => .ite v5 (.fin [.val (AV.int .i64 (-1))]) (.op (.fad 2 v1) fun v6 => .op (.ld1 v6) fun v7 => .op (.call n_laws_szTimerSS [v7, v4]) fun v8 => .op (.bin 0 .lss v8 (AV.int .i64 0)) fun v9 => .ite v9 (.fin [.val (AV.int .i64 (-1))]) (.op (.fad 3 v1) fun v10 => .op (.ld1 v10) fun v11 => .op (.call n_laws_szTimerS [v11, v8]) fun v12 => .op (.bin 0 .lss v12 (AV.int .i64 0)) fun v13 => .ite v13 (.fin [.val (AV.int .i64 (-1))]) (.fin [.val v12])))
theorem c_laws_szWheel (x0 x1 : AV) : CC Tryz.prog n_laws_szWheel [x0, x1] (p_laws_szWheel x0 x1) := cc Tryz.func36 [] (fun _ => []) (by kernel_rfl)
end
theorem s_laws_toWheel (x : Wheel) (hs : Sz.sz x ≤ 1048576) : CopyX Wheel Tryz.prog n_laws_toWheel x := by
  rintro cs F h ⟨v0, v1, v2, F0, F1, F2, rfl, rfl, r0, r1, r2⟩
  have hs : (x.near.length + szs x.near) + (x.far.length + szs x.far) + (x.rest.length + szs x.rest) ≤ 1048576 := hs
  refine c_laws_toWheel _ ?_
  unfold p_laws_toWheel
  (repeat' first|refine vs ?_|(refine br ?_ ?_<;>intro _<;>try(exfalso;first|omega|contradiction))|((with_reducible refine g_callf n_laws_toTimerSS ?_);(refine aw_call (copy_r s_laws_toTimerSS slr_auto om_auto) ?_; rintro _ _ ⟨e_, _, _, _⟩; have n_ := e_.1; (try simp only [push_n, upd_n] at n_)))|((with_reducible refine g_callf n_laws_toTimerS ?_);(refine aw_call (copy_r s_laws_toTimerS slr_auto om_auto) ?_; rintro _ _ ⟨e_, _, _, _⟩; have n_ := e_.1; (try simp only [push_n, upd_n] at n_)))|((with_reducible refine g_idx ?_);((first|refine ix ?_|refine ixi ?_|(refine ixg ?_;intro _ _)|(refine ixgi ?_;intro _ _));first|rintro _ _ _ _ _ ⟨rfl,rfl⟩ _|rintro _ _ _ _ _ ⟨_,rfl,_⟩ _|rintro _ _ _ _ _ ⟨_,_,_,_,rfl,rfl,_,_⟩ _|intro _ _ _ _ _ _ _))|(refine sx ?_;intro _ _)|((with_reducible refine g_awp ?_);simp only [g0,g1,g2]))
  exact ⟨rfl, _, rfl, ext_auto, _, _, rfl, ⟨_, _, _, _, _, _, rfl, rfl, slr_auto, slr_auto, slr_auto⟩, (ol_app2 oll_auto (ol_app2 oll_auto oll_auto disn_auto) disn_auto).1⟩
theorem s_laws_eqWheel : EqC Wheel Tryz.prog n_laws_eqWheel := by
  rintro x cs cs' F F' h ⟨v0, v1, v2, F0, F1, F2, rfl, rfl, r0, r1, r2⟩ ⟨u0, u1, u2, G0, G1, G2, rfl, rfl, q0, q1, q2⟩
  refine reader (c_laws_eqWheel _ _) (by simp only [old]) ?_
  unfold p_laws_eqWheel
  (repeat' first|refine vs ?_|(refine br ?_ ?_<;>intro _<;>try(exfalso;first|omega|contradiction))|((with_reducible refine g_callf n_laws_eqTimerSS ?_);refine aw_rcall (s_laws_eqTimerSS _ _ _ _ _ _ slr_auto slr_auto) ?_)|((with_reducible refine g_callf n_laws_eqTimerS ?_);refine aw_rcall (s_laws_eqTimerS _ _ _ _ _ _ slr_auto slr_auto) ?_)|((with_reducible refine g_idx ?_);((first|refine ix ?_|refine ixi ?_|(refine ixg ?_;intro _ _)|(refine ixgi ?_;intro _ _));first|rintro _ _ _ _ _ ⟨rfl,rfl⟩ _|rintro _ _ _ _ _ ⟨_,rfl,_⟩ _|rintro _ _ _ _ _ ⟨_,_,_,_,rfl,rfl,_,_⟩ _|intro _ _ _ _ _ _ _))|(refine sx ?_;intro _ _)|((with_reducible refine g_awp ?_);simp only [g0,g1,g2]))
  exact pb rfl
theorem s_laws_szWheel : SzC Wheel Tryz.prog n_laws_szWheel := by
  rintro x ok cs F b h ⟨v0, v1, v2, F0, F1, F2, rfl, rfl, r0, r1, r2⟩ h0 h1
  obtain ⟨ok_now, ok_near, ok_far, ok_rest⟩ := ok
  have hS : Sz.sz x = (x.near.length + szs x.near) + (x.far.length + szs x.far) + (x.rest.length + szs x.rest) := rfl
  refine reader (c_laws_szWheel _ _) (by simp only [old]) ?_
  unfold p_laws_szWheel
  (repeat' first|refine vs ?_|(refine br ?_ ?_<;>intro _<;>try(exfalso;first|omega|contradiction))|((with_reducible refine g_callf n_laws_szTimerSS ?_);(refine aw_sz (szl s_laws_szTimerSS slr_auto (by assumption) om_auto om_auto) (fun _ => ?_) (fun _ => ?_)))|((with_reducible refine g_callf n_laws_szTimerS ?_);(refine aw_sz (szl s_laws_szTimerS slr_auto (by assumption) om_auto om_auto) (fun _ => ?_) (fun _ => ?_)))|((with_reducible refine g_idx ?_);((first|refine ix ?_|refine ixi ?_|(refine ixg ?_;intro _ _)|(refine ixgi ?_;intro _ _));first|rintro _ _ _ _ _ ⟨rfl,rfl⟩ _|rintro _ _ _ _ _ ⟨_,rfl,_⟩ _|rintro _ _ _ _ _ ⟨_,_,_,_,rfl,rfl,_,_⟩ _|intro _ _ _ _ _ _ _))|(refine sx ?_;intro _ _)|((with_reducible refine g_awp ?_);simp only [g0,g1,g2]))
  all_goals (refine pi ?_; unfold szr; split <;> omega)
end Go.Proofs.YtjnekdbdmoibgaaGreat
end
section
/- Verdict: copies, comparisons, sizes. Written by mkl.py. -/
set_option linter.unusedSimpArgs false
set_option linter.unusedVariables false
set_option maxHeartbeats 1000000
namespace Go.Proofs.YtjnekdbdmoibgaaGreat
open Go Go.Ab
section
/- laws.toVerdict -/
def p_laws_toVerdict (x0 : AV) : Prog := .op (.box x0) fun v1 => .op (.alloc [AV.int .i64 0, AV.int .i64 0, AV.bool false]) fun v2 => .op (.alloc [AV.int .i64 0, AV.int .i64 0, AV.bool false]) fun v3 => .op (.fad 0 v1) fun v4 => .op (.ld1 v4) fun v5 => .op (.fad 0 v3) fun v6 => .op (.st 1 v6 v5) fun v7 => .op (.fad 1 v1) fun v8 => .op (.ld1 v8) fun v9 => .op (.fad 1 v3) fun v10 => .op (.st 1 v10 v9) fun v11 => .op (.fad 2 v1) fun v12 => .op (.ld1 v12) fun v13 => .op (.fad 2 v3) fun v14 => .op (.st 1 v14 v13) fun v15 => .op (.ldn 3 v3) fun v16 => .op (.st 3 v2 v16) fun v17 => .fin [.cn 3 v2]
theorem c_laws_toVerdict (x0 : AV) : CC Tryz.prog n_laws_toVerdict [x0] (p_laws_toVerdict x0) := cc Tryz.func129 [] (fun _ => []) (by kernel_rfl)
/- laws.eqVerdict -/
def p_laws_eqVerdict (x0 x1 : AV) : Prog := .op (.box x0) fun v1 => .op (.box x1) fun v2 => .op (.fad 0 v1) fun v3 => .op (.ld1 v3) fun v4 => .op (.fad 0 v2) fun v5 => .op (.ld1 v5) fun v6 => .op (.bin 0 .neq v4 v6) fun v7 => .ite v7 (.fin [.val (AV.bool false)]) (.op (.fad 1 v1) fun v8 => .op (.ld1 v8) fun v9 => .op (.fad 1 v2) fun v10 => .op (.ld1 v10) fun v11 => .op (.bin 0 .neq v9 v11) fun v12 => .ite v12 (.fin [.val (AV.bool false)]) (.op (.fad 2 v1) fun v13 => .op (.ld1 v13) fun v14 => .op (.fad 2 v2) fun v15 => .op (.ld1 v15) fun v16 => .op (.bin 2 .neq v14 v16) fun v17 => .ite v17 (.fin [.val (AV.bool false)]) (.fin [.val (AV.bool true)])))
theorem c_laws_eqVerdict (x0 x1 : AV) : CC Tryz.prog n_laws_eqVerdict [x0, x1] (p_laws_eqVerdict x0 x1) := cc Tryz.func153 [] (fun _ => []) (by kernel_rfl)
/- laws.toVerdictS -/
def p_laws_toVerdictS (x0 : AV) : Prog := .op (.len 0 x0) fun v1 => .op (.mksl 3 24 [AV.int .i64 0, AV.int .i64 0, AV.bool false] v1 v1) fun v2 => .loop [AV.int .i64 0] (fun vs3 => .op (.len 0 x0) fun v5 => .op (.bin 0 .lss (g vs3 0) v5) fun v6 => .ite v6 (.op (.idx 3 x0 (g vs3 0)) fun v7 => .op (.ldn 3 v7) fun v8 => .op (.call n_laws_toVerdict [v8]) fun v9 => .op (.idx 3 v2 (g vs3 0)) fun v10 => .op (.st 3 v10 v9) fun v11 => .op (.bin 0 .add (g vs3 0) (AV.int .i64 1)) fun v12 => .leaf 0 [v12]) (.leaf 2 [g vs3 0])) fun t4 vs3 => tsel t4 1 (.leaf 1 vs3) (tsel t4 2 (.fin [.val v2]) .bad)
theorem c_laws_toVerdictS (x0 : AV) : CC Tryz.prog n_laws_toVerdictS [x0] (p_laws_toVerdictS x0) := cc Tryz.func48 [0, 3, 4] (fun _ => []) (by kernel_rfl)
/- laws.eqVerdictS -/
def p_laws_eqVerdictS (x0 x1 : AV) : Prog := .op (.len 0 x0) fun v1 => .op (.len 0 x1) fun v2 => .op (.bin 0 .neq v1 v2) fun v3 => .ite v3 (.fin [.val (AV.bool false)]) (.loop [AV.int .i64 0] (fun vs4 => .op (.len 0 x0) fun v6 => .op (.bin 0 .lss (g vs4 0) v6) fun v7 => .ite v7 (.op (.idx 3 x0 (g vs4 0)) fun v8 => .op (.ldn 3 v8) fun v9 => .op (.idx 3 x1 (g vs4 0)) fun v10 => .op (.ldn 3 v10) fun v11 => .op (.call n_laws_eqVerdict [v9, v11]) fun v12 => .op (.una .not v12) fun v13 => .ite v13 (.fin [.val (AV.bool false)]) (.op (.bin 0 .add (g vs4 0) (AV.int .i64 1)) fun v14 => .leaf 0 [v14])) (.leaf 2 [g vs4 0])) fun t5 vs4 => tsel t5 1 (.leaf 1 vs4) (tsel t5 2 (.fin [.val (AV.bool true)]) .bad))
theorem c_laws_eqVerdictS (x0 x1 : AV) : CC Tryz.prog n_laws_eqVerdictS [x0, x1] (p_laws_eqVerdictS x0 x1) := cc Tryz.func63 [0, 1, 5] (fun r => if r = 6 then [(0, []), (1, []), (2, []), (3, []), (4, []), (5, []), (6, []), (7, []), (8, []), (9, [])] else []) (by kernel_rfl)
/- laws.szVerdictS -/
def p_laws_szVerdictS (x0 x1 : AV) : Prog := .op (.len 0 x0) fun v1 => .op (.bin 0 .sub x1 v1) fun v2 => .op (.bin 0 .lss v2 (AV.int .i64 0)) fun v3 => .ite v3 (.fin [.val (AV.int .i64 (-1))]) (.fin [.val v2])
theorem c_laws_szVerdictS (x0 x1 : AV) : CC Tryz.prog n_laws_szVerdictS [x0, x1] (p_laws_szVerdictS x0 x1) := cc Tryz.func35 [] (fun _ => []) (by kernel_rfl)
end
theorem s_laws_toVerdict (x : Verdict) (hs : Sz.sz x ≤ 1048576) : CopyX Verdict Tryz.prog n_laws_toVerdict x := by
  rintro cs F h ⟨rfl, rfl⟩
  have hs : 0 ≤ 1048576 := hs
  refine c_laws_toVerdict _ ?_
  unfold p_laws_toVerdict
  (repeat' first|refine vs ?_|(refine br ?_ ?_<;>intro _<;>try(exfalso;first|omega|contradiction))|((with_reducible refine g_idx ?_);((first|refine ix ?_|refine ixi ?_|(refine ixg ?_;intro _ _)|(refine ixgi ?_;intro _ _));first|rintro _ _ _ _ _ ⟨rfl,rfl⟩ _|rintro _ _ _ _ _ ⟨_,rfl,_⟩ _|rintro _ _ _ _ _ ⟨_,_,_,_,rfl,rfl,_,_⟩ _|intro _ _ _ _ _ _ _))|(refine sx ?_;intro _ _)|((with_reducible refine g_awp ?_);simp only [g0,g1,g2]))
  exact ⟨rfl, _, rfl, ext_auto, _, _, rfl, ⟨rfl, rfl⟩, Own.nil⟩
theorem s_laws_eqVerdict : EqC Verdict Tryz.prog n_laws_eqVerdict := by
  rintro x cs cs' F F' h ⟨rfl, rfl⟩ ⟨rfl, rfl⟩
  refine reader (c_laws_eqVerdict _ _) (by simp only [old]) ?_
  unfold p_laws_eqVerdict
  (repeat' first|refine vs ?_|(refine br ?_ ?_<;>intro _<;>try(exfalso;first|omega|contradiction))|((with_reducible refine g_idx ?_);((first|refine ix ?_|refine ixi ?_|(refine ixg ?_;intro _ _)|(refine ixgi ?_;intro _ _));first|rintro _ _ _ _ _ ⟨rfl,rfl⟩ _|rintro _ _ _ _ _ ⟨_,rfl,_⟩ _|rintro _ _ _ _ _ ⟨_,_,_,_,rfl,rfl,_,_⟩ _|intro _ _ _ _ _ _ _))|(refine sx ?_;intro _ _)|((with_reducible refine g_awp ?_);simp only [g0,g1,g2]))
  exact pb rfl
theorem s_laws_toVerdictS (xs : List Verdict) (hs : xs.length + szs xs ≤ 1048576) : CopyL Tryz.prog n_laws_toVerdictS xs := copyL_of rfl rfl (by decide) hs (fun x hx => s_laws_toVerdict x hx) (fun g => c_laws_toVerdictS _ g)
theorem s_laws_eqVerdictS : EqS Verdict Tryz.prog n_laws_eqVerdictS := fun xs v v' F F' h r r' => reader (c_laws_eqVerdictS _ _) (by simp only [old]) (eqS_spec rfl s_laws_eqVerdict r r')
theorem s_laws_szVerdictS : SzL Verdict Tryz.prog n_laws_szVerdictS := fun xs _ v F b h r h0 h1 => reader (c_laws_szVerdictS _ _) (by simp only [old]) (by have := szF_spec (P := Tryz.prog) r h0 h1; rw [szs_zero (fun _ => rfl)]; exact this)
end Go.Proofs.YtjnekdbdmoibgaaGreat
end
section
/- Bucket: copies, comparisons, sizes. Written by mkl.py. -/
set_option linter.unusedSimpArgs false
set_option linter.unusedVariables false
set_option maxHeartbeats 1000000
namespace Go.Proofs.YtjnekdbdmoibgaaGreat
open Go Go.Ab
section
/- laws.toBucket -/
def p_laws_toBucket (x0 : AV) : Prog := .op (.box x0) fun v1 => .op (.alloc [AV.int .i64 0, AV.int .i64 0, AV.int .i64 0, AV.int .i64 0]) fun v2 => .op (.alloc [AV.int .i64 0, AV.int .i64 0, AV.int .i64 0, AV.int .i64 0]) fun v3 => .op (.fad 0 v1) fun v4 => .op (.ld1 v4) fun v5 => .op (.fad 0 v3) fun v6 => .op (.st 1 v6 v5) fun v7 => .op (.fad 1 v1) fun v8 => .op (.ld1 v8) fun v9 => .op (.fad 1 v3) fun v10 => .op (.st 1 v10 v9) fun v11 => .op (.fad 2 v1) fun v12 => .op (.ld1 v12) fun v13 => .op (.fad 2 v3) fun v14 => .op (.st 1 v14 v13) fun v15 => .op (.fad 3 v1) fun v16 => .op (.ld1 v16) fun v17 => .op (.fad 3 v3) fun v18 => .op (.st 1 v18 v17) fun v19 => .op (.ldn 4 v3) fun v20 => .op (.st 4 v2 v20) fun v21 => .fin [.cn 4 v2]
theorem c_laws_toBucket (x0 : AV) : CC Tryz.prog n_laws_toBucket [x0] (p_laws_toBucket x0) := cc Tryz.func47 [] (fun _ => []) (by kernel_rfl)
/- laws.eqBucket -/
def p_laws_eqBucket (x0 x1 : AV) : Prog := .op (.box x0) fun v1 => .op (.box x1) fun v2 => .op (.fad 0 v1) fun v3 => .op (.ld1 v3) fun v4 => .op (.fad 0 v2) fun v5 => .op (.ld1 v5) fun v6 => .op (.bin 0 .neq v4 v6) fun v7 => .ite v7 (.fin [.val (AV.bool false)]) (.op (.fad 1 v1) fun v8 => .op (.ld1 v8) fun v9 => .op (.fad 1 v2) fun v10 => .op (.ld1 v10) fun v11 => .op (.bin 0 .neq v9 v11) fun v12 => .ite v12 (.fin [.val (AV.bool false)]) (.op (.fad 2 v1) fun v13 => .op (.ld1 v13) fun v14 => .op (.fad 2 v2) fun v15 => .op (.ld1 v15) fun v16 => .op (.bin 0 .neq v14 v16) fun v17 => .ite v17 (.fin [.val (AV.bool false)]) (.op (.fad 3 v1) fun v18 => .op (.ld1 v18) fun v19 => .op (.fad 3 v2) fun v20 => .op (.ld1 v20) fun v21 => .op (.bin 0 .neq v19 v21) fun v22 => .ite v22 (.fin [.val (AV.bool false)]) (.fin [.val (AV.bool true)]))))
theorem c_laws_eqBucket (x0 x1 : AV) : CC Tryz.prog n_laws_eqBucket [x0, x1] (p_laws_eqBucket x0 x1) := cc Tryz.func62 [] (fun _ => []) (by kernel_rfl)
end
theorem s_laws_toBucket (x : Bucket) (hs : Sz.sz x ≤ 1048576) : CopyX Bucket Tryz.prog n_laws_toBucket x := by
  rintro cs F h ⟨rfl, rfl⟩
  have hs : 0 ≤ 1048576 := hs
  refine c_laws_toBucket _ ?_
  unfold p_laws_toBucket
  (repeat' first|refine vs ?_|(refine br ?_ ?_<;>intro _<;>try(exfalso;first|omega|contradiction))|((with_reducible refine g_idx ?_);((first|refine ix ?_|refine ixi ?_|(refine ixg ?_;intro _ _)|(refine ixgi ?_;intro _ _));first|rintro _ _ _ _ _ ⟨rfl,rfl⟩ _|rintro _ _ _ _ _ ⟨_,rfl,_⟩ _|rintro _ _ _ _ _ ⟨_,_,_,_,rfl,rfl,_,_⟩ _|intro _ _ _ _ _ _ _))|(refine sx ?_;intro _ _)|((with_reducible refine g_awp ?_);simp only [g0,g1,g2]))
  exact ⟨rfl, _, rfl, ext_auto, _, _, rfl, ⟨rfl, rfl⟩, Own.nil⟩
theorem s_laws_eqBucket : EqC Bucket Tryz.prog n_laws_eqBucket := by
  rintro x cs cs' F F' h ⟨rfl, rfl⟩ ⟨rfl, rfl⟩
  refine reader (c_laws_eqBucket _ _) (by simp only [old]) ?_
  unfold p_laws_eqBucket
  (repeat' first|refine vs ?_|(refine br ?_ ?_<;>intro _<;>try(exfalso;first|omega|contradiction))|((with_reducible refine g_idx ?_);((first|refine ix ?_|refine ixi ?_|(refine ixg ?_;intro _ _)|(refine ixgi ?_;intro _ _));first|rintro _ _ _ _ _ ⟨rfl,rfl⟩ _|rintro _ _ _ _ _ ⟨_,rfl,_⟩ _|rintro _ _ _ _ _ ⟨_,_,_,_,rfl,rfl,_,_⟩ _|intro _ _ _ _ _ _ _))|(refine sx ?_;intro _ _)|((with_reducible refine g_awp ?_);simp only [g0,g1,g2]))
  exact pb rfl
end Go.Proofs.YtjnekdbdmoibgaaGreat
end
section
/- Conf: copies, comparisons, sizes. Written by mkl.py. -/
set_option linter.unusedSimpArgs false
set_option linter.unusedVariables false
set_option maxHeartbeats 1000000
namespace Go.Proofs.YtjnekdbdmoibgaaGreat
open Go Go.Ab
section
/- laws.toConf -/
def p_laws_toConf (x0 : AV) : Prog := .op (.box x0) fun v1 => .op (.alloc z12_a94) fun v2 => .op (.alloc z12_a94) fun v3 => .op (.fad 0 v1) fun v4 => .op (.ld1 v4) fun v5 => .op (.fad 0 v3) fun v6 => .op (.st 1 v6 v5) fun v7 => .op (.fad 1 v1) fun v8 => .op (.ld1 v8) fun v9 => .op (.fad 1 v3) fun v10 => .op (.st 1 v10 v9) fun v11 => .op (.fad 2 v1) fun v12 => .op (.ld1 v12) fun v13 => .op (.fad 2 v3) fun v14 => .op (.st 1 v14 v13) fun v15 => .op (.fad 3 v1) fun v16 => .op (.ld1 v16) fun v17 => .op (.fad 3 v3) fun v18 => .op (.st 1 v18 v17) fun v19 => .op (.fad 4 v1) fun v20 => .op (.ld1 v20) fun v21 => .op (.fad 4 v3) fun v22 => .op (.st 1 v22 v21) fun v23 => .op (.fad 5 v1) fun v24 => .op (.ld1 v24) fun v25 => .op (.fad 5 v3) fun v26 => .op (.st 1 v26 v25) fun v27 => .op (.fad 6 v1) fun v28 => .op (.ld1 v28) fun v29 => .op (.fad 6 v3) fun v30 => .op (.st 1 v30 v29) fun v31 => .op (.fad 7 v1) fun v32 => .op (.ldn 5 v32) fun v33 => .op (.call n_laws_toPol [v33]) fun v34 => .op (.fad 7 v3) fun v35 => .op (.st 5 v35 v34) fun v36 => .op (.ldn 12 v3) fun v37 => .op (.st 12 v2 v37) fun v38 => .fin [.cn 12 v2]
theorem c_laws_toConf (x0 : AV) : CC Tryz.prog n_laws_toConf [x0] (p_laws_toConf x0) := cc Tryz.func45 [] (fun _ => []) (by kernel_rfl)
/- laws.eqConf -/
def p_laws_eqConf (x0 x1 : AV) : Prog := .op (.box x0) fun v1 => .op (.box x1) fun v2 => .op (.fad 0 v1) fun v3 => .op (.ld1 v3) fun v4 => .op (.fad 0 v2) fun v5 => .op (.ld1 v5) fun v6 => .op (.bin 0 .neq v4 v6) fun v7 => .ite v7 (.fin [.val (AV.bool false)]) (.op (.fad 1 v1) fun v8 => .op (.ld1 v8) fun v9 => .op (.fad 1 v2) fun v10 => .op (.ld1 v10) fun v11 => .op (.bin 0 .neq v9 v11) fun v12 => .ite v12 (.fin [.val (AV.bool false)]) (.op (.fad 2 v1) fun v13 => .op (.ld1 v13) fun v14 => .op (.fad 2 v2) fun v15 => .op (.ld1 v15) fun v16 => .op (.bin 0 .neq v14 v16) fun v17 => .ite v17 (.fin [.val (AV.bool false)]) (.op (.fad 3 v1) fun v18 => .op (.ld1 v18) fun v19 => .op (.fad 3 v2) fun v20 => .op (.ld1 v20) fun v21 => .op (.bin 0 .neq v19 v21) fun v22 => .ite v22 (.fin [.val (AV.bool false)]) (.op (.fad 4 v1) fun v23 => .op (.ld1 v23) fun v24 => .op (.fad 4 v2) fun v25 => .op (.ld1 v25) fun v26 => .op (.bin 0 .neq v24 v26) fun v27 => .ite v27 (.fin [.val (AV.bool false)]) (.op (.fad 5 v1) fun v28 => .op (.ld1 v28) fun v29 => .op (.fad 5 v2) fun v30 => .op (.ld1 v30) fun v31 => .op (.bin 0 .neq v29 v31) fun v32 => .ite v32 (.fin [.val (AV.bool false)]) (.op (.fad 6 v1) fun v33 => .op (.ld1 v33) fun v34 => .op (.fad 6 v2) fun v35 => .op (.ld1 v35) fun v36 => .op (.bin 0 .neq v34 v36) fun v37 => .ite v37 (.fin [.val (AV.bool false)]) (.op (.fad 7 v1) fun v38 => .op (.ldn 5 v38) fun v39 => .op (.fad 7 v2) fun v40 => .op (.ldn 5 v40) fun v41 => .op (.call n_laws_eqPol [v39, v41]) fun v42 => .op (.una .not v42) fun v43 => .ite v43 (.fin [.val (AV.bool false)]) (.fin [.val (AV.bool true)]))))))))
theorem c_laws_eqConf (x0 x1 : AV) : CC Tryz.prog n_laws_eqConf [x0, x1] (p_laws_eqConf x0 x1) := cc Tryz.func60 [] (fun _ => []) (by kernel_rfl)
/- laws.szConf -/
def p_laws_szConf (x0 x1 : AV) : Prog := .op (.box x0) fun v1 => .op (.fad 7 v1) fun v2 => .op (.ldn 5 v2) fun v3 => .op (.call n_laws_szPol [v3, x1]) fun v4 => .op (.bin 0 .lss v4 (AV.int .i64 0)) fun v5 => .ite v5 (.fin [.val (AV.int .i64 (-1))]) (.fin [.val v4])
theorem c_laws_szConf (x0 x1 : AV) : CC Tryz.prog n_laws_szConf [x0, x1] (p_laws_szConf x0 x1) := cc Tryz.func33 [] (fun _ => []) (by kernel_rfl)
end
theorem s_laws_toConf (x : Conf) (hs : Sz.sz x ≤ 1048576) : CopyX Conf Tryz.prog n_laws_toConf x := by
  rintro cs F h ⟨v0, rfl, r0⟩
  have hs : Sz.sz x.rule ≤ 1048576 := hs
  have e_rule : Sz.sz x.rule = x.rule.key.size + x.rule.text.size + (x.rule.l.length + szs x.rule.l) := Pol.sz_eq _
  refine c_laws_toConf _ ?_
  unfold p_laws_toConf
  (repeat' first|refine vs ?_|(refine br ?_ ?_<;>intro _<;>try(exfalso;first|omega|contradiction))|((with_reducible refine g_callf n_laws_toPol ?_);(refine aw_call (s_laws_toPol _ om_auto _ _ _ (Pol.rep_iff.2 ⟨_, rfl, slr_auto⟩)) ?_; rintro _ _ ⟨e_, _, _, rfl, r_, _⟩; obtain ⟨_, rfl, _⟩ := Pol.rep_iff.1 r_; have n_ := e_.1; (try simp only [push_n, upd_n] at n_)))|((with_reducible refine g_idx ?_);((first|refine ix ?_|refine ixi ?_|(refine ixg ?_;intro _ _)|(refine ixgi ?_;intro _ _));first|rintro _ _ _ _ _ ⟨rfl,rfl⟩ _|rintro _ _ _ _ _ ⟨_,rfl,_⟩ _|rintro _ _ _ _ _ ⟨_,_,_,_,rfl,rfl,_,_⟩ _|intro _ _ _ _ _ _ _))|(refine sx ?_;intro _ _)|((with_reducible refine g_awp ?_);simp only [g0,g1,g2]))
  exact ⟨rfl, _, rfl, ext_auto, _, _, rfl, ⟨_, rfl, slr_auto⟩, ol_auto⟩
theorem s_laws_eqConf : EqC Conf Tryz.prog n_laws_eqConf := by
  rintro x cs cs' F F' h ⟨v0, rfl, r0⟩ ⟨u0, rfl, q0⟩
  refine reader (c_laws_eqConf _ _) (by simp only [old]) ?_
  unfold p_laws_eqConf
  (repeat' first|refine vs ?_|(refine br ?_ ?_<;>intro _<;>try(exfalso;first|omega|contradiction))|((with_reducible refine g_callf n_laws_eqPol ?_);refine aw_rcall (s_laws_eqPol _ _ _ _ _ _ (Pol.rep_iff.2 ⟨_, rfl, slr_auto⟩) (Pol.rep_iff.2 ⟨_, rfl, slr_auto⟩)) ?_)|((with_reducible refine g_idx ?_);((first|refine ix ?_|refine ixi ?_|(refine ixg ?_;intro _ _)|(refine ixgi ?_;intro _ _));first|rintro _ _ _ _ _ ⟨rfl,rfl⟩ _|rintro _ _ _ _ _ ⟨_,rfl,_⟩ _|rintro _ _ _ _ _ ⟨_,_,_,_,rfl,rfl,_,_⟩ _|intro _ _ _ _ _ _ _))|(refine sx ?_;intro _ _)|((with_reducible refine g_awp ?_);simp only [g0,g1,g2]))
  exact pb rfl
theorem s_laws_szConf : SzC Conf Tryz.prog n_laws_szConf := by
  rintro x ok cs F b h ⟨v0, rfl, r0⟩ h0 h1
  obtain ⟨ok_stripes, ok_wait, ok_budget, ok_cache, ok_queue, ok_rate, ok_burst, ok_rule⟩ := ok
  have hS : Sz.sz x = Sz.sz x.rule := rfl
  have e_rule : Sz.sz x.rule = x.rule.key.size + x.rule.text.size + (x.rule.l.length + szs x.rule.l) := Pol.sz_eq _
  refine reader (c_laws_szConf _ _) (by simp only [old]) ?_
  unfold p_laws_szConf
  (repeat' first|refine vs ?_|(refine br ?_ ?_<;>intro _<;>try(exfalso;first|omega|contradiction))|((with_reducible refine g_callf n_laws_szPol ?_);(refine aw_sz (s_laws_szPol _ (by assumption) _ _ _ _ (Pol.rep_iff.2 ⟨_, rfl, slr_auto⟩) om_auto om_auto) (fun _ => ?_) (fun _ => ?_)))|((with_reducible refine g_idx ?_);((first|refine ix ?_|refine ixi ?_|(refine ixg ?_;intro _ _)|(refine ixgi ?_;intro _ _));first|rintro _ _ _ _ _ ⟨rfl,rfl⟩ _|rintro _ _ _ _ _ ⟨_,rfl,_⟩ _|rintro _ _ _ _ _ ⟨_,_,_,_,rfl,rfl,_,_⟩ _|intro _ _ _ _ _ _ _))|(refine sx ?_;intro _ _)|((with_reducible refine g_awp ?_);simp only [g0,g1,g2]))
  all_goals (refine pi ?_; unfold szr; split <;> omega)
end Go.Proofs.YtjnekdbdmoibgaaGreat
end
