
/- Stripe: copies, comparisons, sizes. Written by mkl.py. -/
import Derived.Test.YtideefohbkhhhaaGreatLTrail
set_option linter.unusedSimpArgs false
set_option linter.unusedVariables false
set_option maxHeartbeats 1000000
namespace Go.Proofs.YtideefohbkhhhaaGreat
open Go Go.Ab
section
/- laws.toStripe -/
def p_laws_toStripe (x0 : AV) : Prog := .op (.box x0) fun v1 => .op (.alloc [AV.int .i64 0, AV.nils]) fun v2 => .op (.alloc [AV.int .i64 0, AV.nils]) fun v3 => .op (.fad 0 v1) fun v4 => .op (.ld1 v4) fun v5 => .op (.fad 0 v3) fun v6 => .op (.st 1 v6 v5) fun v7 => .op (.fad 1 v1) fun v8 => .op (.ld1 v8) fun v9 => .op (.call n_laws_toTrailS [v9]) fun v10 => .op (.fad 1 v3) fun v11 => .op (.st 1 v11 v10) fun v12 => .op (.ldn 2 v3) fun v13 => .op (.st 2 v2 v13) fun v14 => .fin [.cn 2 v2]
theorem c_laws_toStripe (x0 : AV) : CC Tryz.prog n_laws_toStripe [x0] (p_laws_toStripe x0) := cc Tryz.func132 [] (fun _ => []) (by kernel_rfl)
/- laws.eqStripe -/
def p_laws_eqStripe (x0 x1 : AV) : Prog := .op (.box x0) fun v1 => .op (.box x1) fun v2 => .op (.fad 0 v1) fun v3 => .op (.ld1 v3) fun v4 => .op (.fad 0 v2) fun v5 => .op (.ld1 v5) fun v6 => .op (.bin 0 .neq v4 v6) fun v7 => .ite v7 (.fin [.val (AV.bool false)]) (.op (.fad 1 v1) fun v8 => .op (.ld1 v8) fun v9 => .op (.fad 1 v2) fun v10 => .op (.ld1 v10) fun v11 => .op (.call n_laws_eqTrailS [v9, v11]) fun v12 => .op (.una .not v12) fun v13 => .ite v13 (.fin [.val (AV.bool false)]) (.fin [.val (AV.bool true)]))
theorem c_laws_eqStripe (x0 x1 : AV) : CC Tryz.prog n_laws_eqStripe [x0, x1] (p_laws_eqStripe x0 x1) := cc Tryz.func158 [] (fun _ => []) (by kernel_rfl)
/- laws.szStripe -/
def p_laws_szStripe (x0 x1 : AV) : Prog := .op (.box x0) fun v1 => .op (.fad 1 v1) fun v2 => .op (.ld1 v2) fun v3 => .op (.call n_laws_szTrailS [v3, x1]) fun v4 => .op (.bin 0 .lss v4 (AV.int .i64 0)) fun v5 => .ite v5 (.fin [.val (AV.int .i64 (-1))]) (.fin [.val v4])
theorem c_laws_szStripe (x0 x1 : AV) : CC Tryz.prog n_laws_szStripe [x0, x1] (p_laws_szStripe x0 x1) := cc Tryz.func115 [] (fun _ => []) (by kernel_rfl)
/- laws.toStripeS -/
def p_laws_toStripeS (x0 : AV) : Prog := .op (.len 0 x0) fun v1 => .op (.mksl 2 32 [AV.int .i64 0, AV.nils] v1 v1) fun v2 => .loop [AV.int .i64 0] (fun vs3 => .op (.len 0 x0) fun v5 => .op (.bin 0 .lss (g vs3 0) v5) fun v6 => .ite v6 (.op (.idx 2 x0 (g vs3 0)) fun v7 => .op (.ldn 2 v7) fun v8 => .op (.call n_laws_toStripe [v8]) fun v9 => .op (.idx 2 v2 (g vs3 0)) fun v10 => .op (.st 2 v10 v9) fun v11 => .op (.bin 0 .add (g vs3 0) (AV.int .i64 1)) fun v12 => .leaf 0 [v12]) (.leaf 2 [g vs3 0])) fun t4 vs3 => tsel t4 1 (.leaf 1 vs3) (tsel t4 2 (.fin [.val v2]) .bad)
theorem c_laws_toStripeS (x0 : AV) : CC Tryz.prog n_laws_toStripeS [x0] (p_laws_toStripeS x0) := cc Tryz.func56 [0, 3, 4] (fun _ => []) (by kernel_rfl)
/- laws.eqStripeS -/
def p_laws_eqStripeS (x0 x1 : AV) : Prog := .op (.len 0 x0) fun v1 => .op (.len 0 x1) fun v2 => .op (.bin 0 .neq v1 v2) fun v3 => .ite v3 (.fin [.val (AV.bool false)]) (.loop [AV.int .i64 0] (fun vs4 => .op (.len 0 x0) fun v6 => .op (.bin 0 .lss (g vs4 0) v6) fun v7 => .ite v7 (.op (.idx 2 x0 (g vs4 0)) fun v8 => .op (.ldn 2 v8) fun v9 => .op (.idx 2 x1 (g vs4 0)) fun v10 => .op (.ldn 2 v10) fun v11 => .op (.call n_laws_eqStripe [v9, v11]) fun v12 => .op (.una .not v12) fun v13 => .ite v13 (.fin [.val (AV.bool false)]) (.op (.bin 0 .add (g vs4 0) (AV.int .i64 1)) fun v14 => .leaf 0 [v14])) (.leaf 2 [g vs4 0])) fun t5 vs4 => tsel t5 1 (.leaf 1 vs4) (tsel t5 2 (.fin [.val (AV.bool true)]) .bad))
theorem c_laws_eqStripeS (x0 x1 : AV) : CC Tryz.prog n_laws_eqStripeS [x0, x1] (p_laws_eqStripeS x0 x1) := cc Tryz.func68 [0, 1, 5] (fun r => if r = 6 then [(0, []), (1, []), (2, []), (3, []), (4, []), (5, []), (6, []), (7, []), (8, []), (9, [])] else []) (by kernel_rfl)
/- laws.szStripeS -/
def p_laws_szStripeS (x0 x1 : AV) : Prog := .op (.len 0 x0) fun v1 => .op (.bin 0 .sub x1 v1) fun v2 => .op (.bin 0 .lss v2 (AV.int .i64 0)) fun v3 => .ite v3 (.fin [.val (AV.int .i64 (-1))]) (.loop [v2, AV.int .i64 0] (fun vs4 => .op (.len 0 x0) fun v6 => .op (.bin 0 .lss (g vs4 1) v6) fun v7 => .ite v7 (.op (.idx 2 x0 (g vs4 1)) fun v8 => .op (.ldn 2 v8) fun v9 => .op (.call n_laws_szStripe [v9, g vs4 0]) fun v10 => .op (.bin 0 .lss v10 (AV.int .i64 0)) fun v11 => .ite v11 (.fin [.val (AV.int .i64 (-1))]) (.op (.bin 0 .add (g vs4 1) (AV.int .i64 1)) fun v12 => .leaf 0 [v10, v12])) (.leaf 2 [g vs4 0, g vs4 1])) fun t5 vs4 => tsel t5 1 (.leaf 1 vs4) (tsel t5 2 (.fin [.val (g vs4 0)]) .bad))
theorem c_laws_szStripeS (x0 x1 : AV) : CC Tryz.prog n_laws_szStripeS [x0, x1] (p_laws_szStripeS x0 x1) := cc Tryz.func37 [0, 1, 5] (fun _ => []) (by kernel_rfl)
end
theorem s_laws_toStripe (x : Stripe) (hs : Sz.sz x ≤ 1048576) : CopyX Stripe Tryz.prog n_laws_toStripe x := by
  rintro cs F h ⟨v0, rfl, r0⟩
  have hs : (x.l.length + szs x.l) ≤ 1048576 := hs
  refine c_laws_toStripe _ ?_
  unfold p_laws_toStripe
  (repeat' first|refine vs ?_|(refine br ?_ ?_<;>intro _<;>try(exfalso;first|omega|contradiction))|((with_reducible refine g_callf n_laws_toTrailS ?_);(refine aw_call (copy_r s_laws_toTrailS slr_auto om_auto) ?_; rintro _ _ ⟨e_, _, _, _⟩; have n_ := e_.1; (try simp only [push_n, upd_n] at n_)))|((with_reducible refine g_idx ?_);((first|refine ix ?_|refine ixi ?_|(refine ixg ?_;intro _ _)|(refine ixgi ?_;intro _ _));first|rintro _ _ _ _ _ ⟨rfl,rfl⟩ _|rintro _ _ _ _ _ ⟨_,rfl,_⟩ _|rintro _ _ _ _ _ ⟨_,_,_,_,rfl,rfl,_,_⟩ _|intro _ _ _ _ _ _ _))|(refine sx ?_;intro _ _)|((with_reducible refine g_awp ?_);simp only [g0,g1,g2]))
  exact ⟨rfl, _, rfl, ext_auto, _, _, rfl, ⟨_, rfl, slr_auto⟩, ol_auto⟩
theorem s_laws_eqStripe : EqC Stripe Tryz.prog n_laws_eqStripe := by
  rintro x cs cs' F F' h ⟨v0, rfl, r0⟩ ⟨u0, rfl, q0⟩
  refine reader (c_laws_eqStripe _ _) (by simp only [old]) ?_
  unfold p_laws_eqStripe
  (repeat' first|refine vs ?_|(refine br ?_ ?_<;>intro _<;>try(exfalso;first|omega|contradiction))|((with_reducible refine g_callf n_laws_eqTrailS ?_);refine aw_rcall (s_laws_eqTrailS _ _ _ _ _ _ slr_auto slr_auto) ?_)|((with_reducible refine g_idx ?_);((first|refine ix ?_|refine ixi ?_|(refine ixg ?_;intro _ _)|(refine ixgi ?_;intro _ _));first|rintro _ _ _ _ _ ⟨rfl,rfl⟩ _|rintro _ _ _ _ _ ⟨_,rfl,_⟩ _|rintro _ _ _ _ _ ⟨_,_,_,_,rfl,rfl,_,_⟩ _|intro _ _ _ _ _ _ _))|(refine sx ?_;intro _ _)|((with_reducible refine g_awp ?_);simp only [g0,g1,g2]))
  exact pb rfl
theorem s_laws_szStripe : SzC Stripe Tryz.prog n_laws_szStripe := by
  rintro x ok cs F b h ⟨v0, rfl, r0⟩ h0 h1
  obtain ⟨ok_held, ok_l⟩ := ok
  have hS : Sz.sz x = (x.l.length + szs x.l) := rfl
  refine reader (c_laws_szStripe _ _) (by simp only [old]) ?_
  unfold p_laws_szStripe
  (repeat' first|refine vs ?_|(refine br ?_ ?_<;>intro _<;>try(exfalso;first|omega|contradiction))|((with_reducible refine g_callf n_laws_szTrailS ?_);(refine aw_sz (s_laws_szTrailS _ (by assumption) _ _ _ _ slr_auto om_auto om_auto) (fun _ => ?_) (fun _ => ?_)))|((with_reducible refine g_idx ?_);((first|refine ix ?_|refine ixi ?_|(refine ixg ?_;intro _ _)|(refine ixgi ?_;intro _ _));first|rintro _ _ _ _ _ ⟨rfl,rfl⟩ _|rintro _ _ _ _ _ ⟨_,rfl,_⟩ _|rintro _ _ _ _ _ ⟨_,_,_,_,rfl,rfl,_,_⟩ _|intro _ _ _ _ _ _ _))|(refine sx ?_;intro _ _)|((with_reducible refine g_awp ?_);simp only [g0,g1,g2]))
  all_goals (refine pi ?_; unfold szr; split <;> omega)
theorem s_laws_toStripeS (xs : List Stripe) (hs : xs.length + szs xs ≤ 1048576) : CopyL Tryz.prog n_laws_toStripeS xs := copyL_of rfl rfl (by decide) hs (fun x hx => s_laws_toStripe x hx) (fun g => c_laws_toStripeS _ g)
theorem s_laws_eqStripeS : EqS Stripe Tryz.prog n_laws_eqStripeS := fun xs v v' F F' h r r' => reader (c_laws_eqStripeS _ _) (by simp only [old]) (eqS_spec rfl s_laws_eqStripe r r')
theorem s_laws_szStripeS : SzL Stripe Tryz.prog n_laws_szStripeS := fun xs ok v F b h r h0 h1 => reader (c_laws_szStripeS _ _) (by simp only [old]) (szS_spec rfl s_laws_szStripe ok r h0 h1)
end Go.Proofs.YtideefohbkhhhaaGreat
