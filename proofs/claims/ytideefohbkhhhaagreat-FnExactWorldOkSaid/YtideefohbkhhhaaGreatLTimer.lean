
/- Timer: copies, comparisons, sizes. Written by mkl.py. -/
import Derived.Test.YtideefohbkhhhaaGreatNm
import Derived.Test.YtideefohbkhhhaaGreatK4
set_option linter.unusedSimpArgs false
set_option linter.unusedVariables false
set_option maxHeartbeats 1000000
namespace Go.Proofs.YtideefohbkhhhaaGreat
open Go Go.Ab
section
/- laws.toTimerSS -/
def p_laws_toTimerSS (x0 : AV) : Prog := .op (.len 0 x0) fun v1 => .op (.mksl 1 24 [AV.nils] v1 v1) fun v2 => .loop [AV.int .i64 0] (fun vs3 => .op (.len 0 x0) fun v5 => .op (.bin 0 .lss (g vs3 0) v5) fun v6 => .ite v6 (.op (.idx 1 x0 (g vs3 0)) fun v7 => .op (.ld1 v7) fun v8 => .op (.call n_laws_toTimerS [v8]) fun v9 => .op (.idx 1 v2 (g vs3 0)) fun v10 => .op (.st 1 v10 v9) fun v11 => .op (.bin 0 .add (g vs3 0) (AV.int .i64 1)) fun v12 => .leaf 0 [v12]) (.leaf 2 [g vs3 0])) fun t4 vs3 => tsel t4 1 (.leaf 1 vs3) (tsel t4 2 (.fin [.val v2]) .bad)
theorem c_laws_toTimerSS (x0 : AV) : CC Tryz.prog n_laws_toTimerSS [x0] (p_laws_toTimerSS x0) := cc Tryz.func134 [0, 3, 4] (fun _ => []) (by kernel_rfl)
/- laws.eqTimerSS -/
def p_laws_eqTimerSS (x0 x1 : AV) : Prog := .op (.len 0 x0) fun v1 => .op (.len 0 x1) fun v2 => .op (.bin 0 .neq v1 v2) fun v3 => .ite v3 (.fin [.val (AV.bool false)]) (.loop [AV.int .i64 0] (fun vs4 => .op (.len 0 x0) fun v6 => .op (.bin 0 .lss (g vs4 0) v6) fun v7 => .ite v7 (.op (.idx 1 x0 (g vs4 0)) fun v8 => .op (.ld1 v8) fun v9 => .op (.idx 1 x1 (g vs4 0)) fun v10 => .op (.ld1 v10) fun v11 => .op (.call n_laws_eqTimerS [v9, v11]) fun v12 => .op (.una .not v12) fun v13 => .ite v13 (.fin [.val (AV.bool false)]) (.op (.bin 0 .add (g vs4 0) (AV.int .i64 1)) fun v14 => .leaf 0 [v14])) (.leaf 2 [g vs4 0])) fun t5 vs4 => tsel t5 1 (.leaf 1 vs4) (tsel t5 2 (.fin [.val (AV.bool true)]) .bad))
theorem c_laws_eqTimerSS (x0 x1 : AV) : CC Tryz.prog n_laws_eqTimerSS [x0, x1] (p_laws_eqTimerSS x0 x1) := cc Tryz.func160 [0, 1, 5] (fun r => if r = 6 then [(0, []), (1, []), (2, []), (3, []), (4, []), (5, []), (6, []), (7, []), (8, []), (9, [])] else []) (by kernel_rfl)
/- laws.szTimerSS -/
def p_laws_szTimerSS (x0 x1 : AV) : Prog := .op (.len 0 x0) fun v1 => .op (.bin 0 .sub x1 v1) fun v2 => .op (.bin 0 .lss v2 (AV.int .i64 0)) fun v3 => .ite v3 (.fin [.val (AV.int .i64 (-1))]) (.loop [v2, AV.int .i64 0] (fun vs4 => .op (.len 0 x0) fun v6 => .op (.bin 0 .lss (g vs4 1) v6) fun v7 => .ite v7 (.op (.idx 1 x0 (g vs4 1)) fun v8 => .op (.ld1 v8) fun v9 => .op (.call n_laws_szTimerS [v9, g vs4 0]) fun v10 => .op (.bin 0 .lss v10 (AV.int .i64 0)) fun v11 => .ite v11 (.fin [.val (AV.int .i64 (-1))]) (.op (.bin 0 .add (g vs4 1) (AV.int .i64 1)) fun v12 => .leaf 0 [v10, v12])) (.leaf 2 [g vs4 0, g vs4 1])) fun t5 vs4 => tsel t5 1 (.leaf 1 vs4) (tsel t5 2 (.fin [.val (g vs4 0)]) .bad))
theorem c_laws_szTimerSS (x0 x1 : AV) : CC Tryz.prog n_laws_szTimerSS [x0, x1] (p_laws_szTimerSS x0 x1) := cc Tryz.func116 [0, 1, 5] (fun _ => []) (by kernel_rfl)
/- laws.toTimer -/
def p_laws_toTimer (x0 : AV) : Prog := .op (.box x0) fun v1 => .op (.alloc [AV.int .i64 0, AV.int .i64 0, AV.int .i64 0]) fun v2 => .op (.alloc [AV.int .i64 0, AV.int .i64 0, AV.int .i64 0]) fun v3 => .op (.fad 0 v1) fun v4 => .op (.ld1 v4) fun v5 => .op (.fad 0 v3) fun v6 => .op (.st 1 v6 v5) fun v7 => .op (.fad 1 v1) fun v8 => .op (.ld1 v8) fun v9 => .op (.fad 1 v3) fun v10 => .op (.st 1 v10 v9) fun v11 => .op (.fad 2 v1) fun v12 => .op (.ld1 v12) fun v13 => .op (.fad 2 v3) fun v14 => .op (.st 1 v14 v13) fun v15 => .op (.ldn 3 v3) fun v16 => .op (.st 3 v2 v16) fun v17 => .fin [.cn 3 v2]
theorem c_laws_toTimer (x0 : AV) : CC Tryz.prog n_laws_toTimer [x0] (p_laws_toTimer x0) := cc Tryz.func135 [] (fun _ => []) (by kernel_rfl)
/- laws.eqTimer -/
def p_laws_eqTimer (x0 x1 : AV) : Prog := .op (.box x0) fun v1 => .op (.box x1) fun v2 => .op (.fad 0 v1) fun v3 => .op (.ld1 v3) fun v4 => .op (.fad 0 v2) fun v5 => .op (.ld1 v5) fun v6 => .op (.bin 0 .neq v4 v6) fun v7 => .ite v7 (.fin [.val (AV.bool false)]) (.op (.fad 1 v1) fun v8 => .op (.ld1 v8) fun v9 => .op (.fad 1 v2) fun v10 => .op (.ld1 v10) fun v11 => .op (.bin 0 .neq v9 v11) fun v12 => .ite v12 (.fin [.val (AV.bool false)]) (.op (.fad 2 v1) fun v13 => .op (.ld1 v13) fun v14 => .op (.fad 2 v2) fun v15 => .op (.ld1 v15) fun v16 => .op (.bin 0 .neq v14 v16) fun v17 => .ite v17 (.fin [.val (AV.bool false)]) (.fin [.val (AV.bool true)])))
theorem c_laws_eqTimer (x0 x1 : AV) : CC Tryz.prog n_laws_eqTimer [x0, x1] (p_laws_eqTimer x0 x1) := cc Tryz.func161 [] (fun _ => []) (by kernel_rfl)
/- laws.toTimerS -/
def p_laws_toTimerS (x0 : AV) : Prog := .op (.len 0 x0) fun v1 => .op (.mksl 3 24 [AV.int .i64 0, AV.int .i64 0, AV.int .i64 0] v1 v1) fun v2 => .loop [AV.int .i64 0] (fun vs3 => .op (.len 0 x0) fun v5 => .op (.bin 0 .lss (g vs3 0) v5) fun v6 => .ite v6 (.op (.idx 3 x0 (g vs3 0)) fun v7 => .op (.ldn 3 v7) fun v8 => .op (.call n_laws_toTimer [v8]) fun v9 => .op (.idx 3 v2 (g vs3 0)) fun v10 => .op (.st 3 v10 v9) fun v11 => .op (.bin 0 .add (g vs3 0) (AV.int .i64 1)) fun v12 => .leaf 0 [v12]) (.leaf 2 [g vs3 0])) fun t4 vs3 => tsel t4 1 (.leaf 1 vs3) (tsel t4 2 (.fin [.val v2]) .bad)
theorem c_laws_toTimerS (x0 : AV) : CC Tryz.prog n_laws_toTimerS [x0] (p_laws_toTimerS x0) := cc Tryz.func60 [0, 3, 4] (fun _ => []) (by kernel_rfl)
/- laws.eqTimerS -/
def p_laws_eqTimerS (x0 x1 : AV) : Prog := .op (.len 0 x0) fun v1 => .op (.len 0 x1) fun v2 => .op (.bin 0 .neq v1 v2) fun v3 => .ite v3 (.fin [.val (AV.bool false)]) (.loop [AV.int .i64 0] (fun vs4 => .op (.len 0 x0) fun v6 => .op (.bin 0 .lss (g vs4 0) v6) fun v7 => .ite v7 (.op (.idx 3 x0 (g vs4 0)) fun v8 => .op (.ldn 3 v8) fun v9 => .op (.idx 3 x1 (g vs4 0)) fun v10 => .op (.ldn 3 v10) fun v11 => .op (.call n_laws_eqTimer [v9, v11]) fun v12 => .op (.una .not v12) fun v13 => .ite v13 (.fin [.val (AV.bool false)]) (.op (.bin 0 .add (g vs4 0) (AV.int .i64 1)) fun v14 => .leaf 0 [v14])) (.leaf 2 [g vs4 0])) fun t5 vs4 => tsel t5 1 (.leaf 1 vs4) (tsel t5 2 (.fin [.val (AV.bool true)]) .bad))
theorem c_laws_eqTimerS (x0 x1 : AV) : CC Tryz.prog n_laws_eqTimerS [x0, x1] (p_laws_eqTimerS x0 x1) := cc Tryz.func72 [0, 1, 5] (fun r => if r = 6 then [(0, []), (1, []), (2, []), (3, []), (4, []), (5, []), (6, []), (7, []), (8, []), (9, [])] else []) (by kernel_rfl)
/- laws.szTimerS -/
def p_laws_szTimerS (x0 x1 : AV) : Prog := .op (.len 0 x0) fun v1 => .op (.bin 0 .sub x1 v1) fun v2 => .op (.bin 0 .lss v2 (AV.int .i64 0)) fun v3 => .ite v3 (.fin [.val (AV.int .i64 (-1))]) (.fin [.val v2])
theorem c_laws_szTimerS (x0 x1 : AV) : CC Tryz.prog n_laws_szTimerS [x0, x1] (p_laws_szTimerS x0 x1) := cc Tryz.func40 [] (fun _ => []) (by kernel_rfl)
end
theorem s_laws_toTimer (x : Ab.Timer) (hs : Sz.sz x ≤ 1048576) : CopyX Ab.Timer Tryz.prog n_laws_toTimer x := by
  rintro cs F h ⟨rfl, rfl⟩
  have hs : 0 ≤ 1048576 := hs
  refine c_laws_toTimer _ ?_
  unfold p_laws_toTimer
  (repeat' first|refine vs ?_|(refine br ?_ ?_<;>intro _<;>try(exfalso;first|omega|contradiction))|((with_reducible refine g_idx ?_);((first|refine ix ?_|refine ixi ?_|(refine ixg ?_;intro _ _)|(refine ixgi ?_;intro _ _));first|rintro _ _ _ _ _ ⟨rfl,rfl⟩ _|rintro _ _ _ _ _ ⟨_,rfl,_⟩ _|rintro _ _ _ _ _ ⟨_,_,_,_,rfl,rfl,_,_⟩ _|intro _ _ _ _ _ _ _))|(refine sx ?_;intro _ _)|((with_reducible refine g_awp ?_);simp only [g0,g1,g2]))
  exact ⟨rfl, _, rfl, ext_auto, _, _, rfl, ⟨rfl, rfl⟩, Own.nil⟩
theorem s_laws_eqTimer : EqC Ab.Timer Tryz.prog n_laws_eqTimer := by
  rintro x cs cs' F F' h ⟨rfl, rfl⟩ ⟨rfl, rfl⟩
  refine reader (c_laws_eqTimer _ _) (by simp only [old]) ?_
  unfold p_laws_eqTimer
  (repeat' first|refine vs ?_|(refine br ?_ ?_<;>intro _<;>try(exfalso;first|omega|contradiction))|((with_reducible refine g_idx ?_);((first|refine ix ?_|refine ixi ?_|(refine ixg ?_;intro _ _)|(refine ixgi ?_;intro _ _));first|rintro _ _ _ _ _ ⟨rfl,rfl⟩ _|rintro _ _ _ _ _ ⟨_,rfl,_⟩ _|rintro _ _ _ _ _ ⟨_,_,_,_,rfl,rfl,_,_⟩ _|intro _ _ _ _ _ _ _))|(refine sx ?_;intro _ _)|((with_reducible refine g_awp ?_);simp only [g0,g1,g2]))
  exact pb rfl
theorem s_laws_toTimerS (xs : List Ab.Timer) (hs : xs.length + szs xs ≤ 1048576) : CopyL Tryz.prog n_laws_toTimerS xs := copyL_of rfl rfl (by decide) hs (fun x hx => s_laws_toTimer x hx) (fun g => c_laws_toTimerS _ g)
theorem s_laws_eqTimerS : EqS Ab.Timer Tryz.prog n_laws_eqTimerS := fun xs v v' F F' h r r' => reader (c_laws_eqTimerS _ _) (by simp only [old]) (eqS_spec rfl s_laws_eqTimer r r')
theorem s_laws_szTimerS : SzL Ab.Timer Tryz.prog n_laws_szTimerS := fun xs _ v F b h r h0 h1 => reader (c_laws_szTimerS _ _) (by simp only [old]) (by have := szF_spec (P := Tryz.prog) r h0 h1; rw [szs_zero (fun _ => rfl)]; exact this)
theorem s_laws_toTimerSS (xs : List (List Ab.Timer)) (hs : xs.length + szs xs ≤ 1048576) : CopyL Tryz.prog n_laws_toTimerSS xs := fun v F h r => c_laws_toTimerSS _ (toSS_spec (w := 1) rfl rfl rfl (fun x hx => s_laws_toTimerS x (by have := szs_mem hx; have h2 : Sz.sz x = x.length + szs x := rfl; omega)) r (by omega))
theorem s_laws_eqTimerSS : EqS (List Ab.Timer) Tryz.prog n_laws_eqTimerSS := fun xs v v' F F' h r r' => reader (c_laws_eqTimerSS _ _) (by simp only [old]) (eqSS_spec s_laws_eqTimerS r r')
theorem s_laws_szTimerSS : SzL (List Ab.Timer) Tryz.prog n_laws_szTimerSS := fun xs ok v F b h r h0 h1 => reader (c_laws_szTimerSS _ _) (by simp only [old]) (szSS_spec s_laws_szTimerS ok r h0 h1)
end Go.Proofs.YtideefohbkhhhaaGreat
