
/- The law FnExactOpenTrails, walked. Written by mkxb.py. -/
import Derived.Test.YtpcgbddmdipfbaaW42
import Derived.Test.YtpcgbddmdipfbaaLStripe
import Derived.Test.YtpcgbddmdipfbaaMStripe
import Derived.Test.YtpcgbddmdipfbaaMTrail
set_option linter.unusedSimpArgs false
set_option linter.unusedVariables false
set_option maxHeartbeats 2000000
namespace Go.Proofs.Ytpcgbddmdipfbaa
open Go Go.Ab
section
/- laws.FnExactOpenTrails -/
def p_laws_FnExactOpenTrails (x0 : AV) : Prog := .op (.call n_laws_szStripeS [x0, AV.int .i64 1048576]) fun v1 => .op (.bin 0 .lss v1 (AV.int .i64 0)) fun v2 => .ite v2 (.fin [.val (AV.bool true)]) (.op (.call n_laws_toStripeS [x0]) fun v3 => .op (.call n_spec_OpenTrails [v3]) fun v4 => .op (.call n_laws_toStripeS [x0]) fun v5 => .op (.call n_impl_OpenTrails [v5]) fun v6 => .op (.call n_laws_eqTrailS [v6, v4]) fun v7 => .op (.una .not v7) fun v8 => .ite v8 (.fin [.val (AV.bool false)]) (.op (.call n_laws_toStripeS [x0]) fun v9 => .op (.call n_laws_eqStripeS [v5, v9]) fun v10 => .op (.una .not v10) fun v11 => .ite v11 (.fin [.val (AV.bool false)]) (.op (.call n_laws_markStripeS [v5, AV.int .i64 1]) fun v12 => .op (.bin 0 .lss v12 (AV.int .i64 0)) fun v13 => .gop v13 false (.mv v6) fun v14 => .gop v13 false (.mv v4) fun v15 => .gop v13 false (.call n_laws_eqTrailS [v14, v15]) fun v16 => .gop v13 false (.una .not v16) fun v17 => .op (.pick v13 (AV.bool true) v17) fun v18 => .ite v18 (.fin [.val (AV.bool false)]) (.op (.call n_laws_markTrailS [v6, AV.int .i64 1]) fun v19 => .op (.call n_laws_heldTrailS [v6, AV.int .i64 1]) fun v20 => .op (.bin 0 .lss v20 (AV.int .i64 0)) fun v21 => .ite v21 (.fin [.val (AV.bool false)]) (.op (.bin 0 .neq v20 v19) fun v22 => .ite v22 (.fin [.val (AV.bool false)]) (.op (.call n_laws_toStripeS [x0]) fun v23 => .op (.call n_impl_OpenTrails [v23]) fun v24 => .op (.call n_laws_eqTrailS [v24, v4]) fun v25 => .op (.una .not v25) fun v26 => .ite v26 (.fin [.val (AV.bool false)]) (.op (.call n_laws_heldTrailS [v6, AV.int .i64 1]) fun v27 => .op (.bin 0 .lss v27 (AV.int .i64 0)) fun v28 => .ite v28 (.fin [.val (AV.bool false)]) (.op (.bin 0 .neq v27 v19) fun v29 => .ite v29 (.fin [.val (AV.bool false)]) (.fin [.val (AV.bool true)])))))))))
theorem c_laws_FnExactOpenTrails (x0 : AV) : CC Try.prog n_laws_FnExactOpenTrails [x0] (p_laws_FnExactOpenTrails x0) := cc Try.func5 [] (fun _ => []) (by kernel_rfl)
end
theorem law_FnExactOpenTrails {h : AH} {v0 : AV} {x0 : List Stripe} {F0 : List Nat} (r0 : SlRep h v0 x0 F0) (k0 : ∀ x ∈ x0, Cel.ok x) : RCalls Try.prog n_laws_FnExactOpenTrails [v0] h (.bool true) := by
  refine reader (c_laws_FnExactOpenTrails _) (by simp only [old]) ?_
  unfold p_laws_FnExactOpenTrails
  (repeat' first|refine vs ?_|(refine br ?_ ?_<;>intro _<;>try(exfalso;first|omega|contradiction))|((with_reducible refine g_callf n_laws_szStripeS ?_);(refine aw_sz (szl s_laws_szStripeS slr_auto (by assumption) om_auto om_auto) (fun _ => ?_) (fun _ => ?_)))|((with_reducible refine g_idx ?_);((first|refine ix ?_|refine ixi ?_|(refine ixg ?_;intro _ _)|(refine ixgi ?_;intro _ _));first|rintro _ _ _ _ _ ⟨rfl,rfl⟩ _|rintro _ _ _ _ _ ⟨_,rfl,_⟩ _|rintro _ _ _ _ _ ⟨_,_,_,_,rfl,rfl,_,_⟩ _|intro _ _ _ _ _ _ _))|(refine sx ?_;intro _ _)|((with_reducible refine g_awp ?_);simp only [g0,g1,g2]))
  all_goals first | exact pb rfl | skip
  have hv1 := openT_sz x0
  refine aw_call (copy_r s_laws_toStripeS slr_auto om_auto) ?_
  rintro w1 h1 ⟨e1, W1, p1, o1⟩
  have m1 := e1.1; (try simp only [push_n, upd_n] at m1)
  (repeat' first|refine vs ?_|(refine br ?_ ?_<;>intro _<;>try(exfalso;first|omega|contradiction))|((with_reducible refine g_idx ?_);((first|refine ix ?_|refine ixi ?_|(refine ixg ?_;intro _ _)|(refine ixgi ?_;intro _ _));first|rintro _ _ _ _ _ ⟨rfl,rfl⟩ _|rintro _ _ _ _ _ ⟨_,rfl,_⟩ _|rintro _ _ _ _ _ ⟨_,_,_,_,rfl,rfl,_,_⟩ _|intro _ _ _ _ _ _ _))|(refine sx ?_;intro _ _)|((with_reducible refine g_awp ?_);simp only [g0,g1,g2]))
  refine aw_call (s_spec_OpenTrails (l := x0) om_auto slr_auto) ?_
  rintro w2 h2 ⟨e2, W2, p2, o2⟩
  have m2 := e2.1; (try simp only [push_n, upd_n] at m2)
  (repeat' first|refine vs ?_|(refine br ?_ ?_<;>intro _<;>try(exfalso;first|omega|contradiction))|((with_reducible refine g_idx ?_);((first|refine ix ?_|refine ixi ?_|(refine ixg ?_;intro _ _)|(refine ixgi ?_;intro _ _));first|rintro _ _ _ _ _ ⟨rfl,rfl⟩ _|rintro _ _ _ _ _ ⟨_,rfl,_⟩ _|rintro _ _ _ _ _ ⟨_,_,_,_,rfl,rfl,_,_⟩ _|intro _ _ _ _ _ _ _))|(refine sx ?_;intro _ _)|((with_reducible refine g_awp ?_);simp only [g0,g1,g2]))
  refine aw_call (copy_r s_laws_toStripeS slr_auto om_auto) ?_
  rintro w3 h3 ⟨e3, W3, p3, o3⟩
  have m3 := e3.1; (try simp only [push_n, upd_n] at m3)
  (repeat' first|refine vs ?_|(refine br ?_ ?_<;>intro _<;>try(exfalso;first|omega|contradiction))|((with_reducible refine g_idx ?_);((first|refine ix ?_|refine ixi ?_|(refine ixg ?_;intro _ _)|(refine ixgi ?_;intro _ _));first|rintro _ _ _ _ _ ⟨rfl,rfl⟩ _|rintro _ _ _ _ _ ⟨_,rfl,_⟩ _|rintro _ _ _ _ _ ⟨_,_,_,_,rfl,rfl,_,_⟩ _|intro _ _ _ _ _ _ _))|(refine sx ?_;intro _ _)|((with_reducible refine g_awp ?_);simp only [g0,g1,g2]))
  refine aw_call (s_impl_OpenTrails (l := x0) om_auto slr_auto) ?_
  rintro w4 h4 ⟨e4, W4, p4, o4⟩
  have m4 := e4.1; (try simp only [push_n, upd_n] at m4)
  (repeat' first|refine vs ?_|(refine br ?_ ?_<;>intro _<;>try(exfalso;first|omega|contradiction))|((with_reducible refine g_idx ?_);((first|refine ix ?_|refine ixi ?_|(refine ixg ?_;intro _ _)|(refine ixgi ?_;intro _ _));first|rintro _ _ _ _ _ ⟨rfl,rfl⟩ _|rintro _ _ _ _ _ ⟨_,rfl,_⟩ _|rintro _ _ _ _ _ ⟨_,_,_,_,rfl,rfl,_,_⟩ _|intro _ _ _ _ _ _ _))|(refine sx ?_;intro _ _)|((with_reducible refine g_awp ?_);simp only [g0,g1,g2]))
  refine aw_rcall (s_laws_eqTrailS _ _ _ _ _ _ slr_auto slr_auto) ?_
  (repeat' first|refine vs ?_|(refine br ?_ ?_<;>intro _<;>try(exfalso;first|omega|contradiction))|((with_reducible refine g_idx ?_);((first|refine ix ?_|refine ixi ?_|(refine ixg ?_;intro _ _)|(refine ixgi ?_;intro _ _));first|rintro _ _ _ _ _ ⟨rfl,rfl⟩ _|rintro _ _ _ _ _ ⟨_,rfl,_⟩ _|rintro _ _ _ _ _ ⟨_,_,_,_,rfl,rfl,_,_⟩ _|intro _ _ _ _ _ _ _))|(refine sx ?_;intro _ _)|((with_reducible refine g_awp ?_);simp only [g0,g1,g2]))
  refine aw_call (copy_r s_laws_toStripeS slr_auto om_auto) ?_
  rintro w5 h5 ⟨e5, W5, p5, o5⟩
  have m5 := e5.1; (try simp only [push_n, upd_n] at m5)
  (repeat' first|refine vs ?_|(refine br ?_ ?_<;>intro _<;>try(exfalso;first|omega|contradiction))|((with_reducible refine g_idx ?_);((first|refine ix ?_|refine ixi ?_|(refine ixg ?_;intro _ _)|(refine ixgi ?_;intro _ _));first|rintro _ _ _ _ _ ⟨rfl,rfl⟩ _|rintro _ _ _ _ _ ⟨_,rfl,_⟩ _|rintro _ _ _ _ _ ⟨_,_,_,_,rfl,rfl,_,_⟩ _|intro _ _ _ _ _ _ _))|(refine sx ?_;intro _ _)|((with_reducible refine g_awp ?_);simp only [g0,g1,g2]))
  refine aw_rcall (s_laws_eqStripeS _ _ _ _ _ _ slr_auto slr_auto) ?_
  (repeat' first|refine vs ?_|(refine br ?_ ?_<;>intro _<;>try(exfalso;first|omega|contradiction))|((with_reducible refine g_idx ?_);((first|refine ix ?_|refine ixi ?_|(refine ixg ?_;intro _ _)|(refine ixgi ?_;intro _ _));first|rintro _ _ _ _ _ ⟨rfl,rfl⟩ _|rintro _ _ _ _ _ ⟨_,rfl,_⟩ _|rintro _ _ _ _ _ ⟨_,_,_,_,rfl,rfl,_,_⟩ _|intro _ _ _ _ _ _ _))|(refine sx ?_;intro _ _)|((with_reducible refine g_awp ?_);simp only [g0,g1,g2]))
  have c6 := mks_cnt32 x0 (1)
  have u6 := mks_upF x0 (1)
  refine aw_call (s_laws_markStripeS _ _ W3 0 _ _ slr_auto ol_auto om_auto om_auto) ?_
  rintro _ h6 ⟨rfl, y6, q6, -⟩
  have m6 := y6.1
  have d6_2 : ∀ c ∈ W2, c ∉ W3 := dis_own p2 o3 om_auto
  have z6_2 : SlRep h6 w2 ((openT x0)) W2 := slr_kp1 y6 slr_auto d6_2
  have oz6_2 := (ol_kp1 y6 (ol_ext1 ext_auto (ol_mk o2 p2 (Nat.le_refl _))) d6_2).1
  have d6_4 : ∀ c ∈ W4, c ∉ W3 := dis_own2 o4 p3 om_auto
  have z6_4 : SlRep h6 w4 ((openT x0)) W4 := slr_kp1 y6 slr_auto d6_4
  have oz6_4 := (ol_kp1 y6 (ol_ext1 ext_auto (ol_mk o4 p4 (Nat.le_refl _))) d6_4).1
  (repeat' first|refine vs ?_|(refine br ?_ ?_<;>intro _<;>try(exfalso;first|omega|contradiction))|((with_reducible refine g_idx ?_);((first|refine ix ?_|refine ixi ?_|(refine ixg ?_;intro _ _)|(refine ixgi ?_;intro _ _));first|rintro _ _ _ _ _ ⟨rfl,rfl⟩ _|rintro _ _ _ _ _ ⟨_,rfl,_⟩ _|rintro _ _ _ _ _ ⟨_,_,_,_,rfl,rfl,_,_⟩ _|intro _ _ _ _ _ _ _))|(refine sx ?_;intro _ _)|((with_reducible refine g_awp ?_);simp only [g0,g1,g2]))
  refine aw_rcall (s_laws_eqTrailS _ _ _ _ _ _ slr_auto slr_auto) ?_
  (repeat' first|refine vs ?_|(refine br ?_ ?_<;>intro _<;>try(exfalso;first|omega|contradiction))|((with_reducible refine g_idx ?_);((first|refine ix ?_|refine ixi ?_|(refine ixg ?_;intro _ _)|(refine ixgi ?_;intro _ _));first|rintro _ _ _ _ _ ⟨rfl,rfl⟩ _|rintro _ _ _ _ _ ⟨_,rfl,_⟩ _|rintro _ _ _ _ _ ⟨_,_,_,_,rfl,rfl,_,_⟩ _|intro _ _ _ _ _ _ _))|(refine sx ?_;intro _ _)|((with_reducible refine g_awp ?_);simp only [g0,g1,g2]))
  have c7 := mks_cnt32 ((openT x0)) (1)
  have u7 := mks_upF ((openT x0)) (1)
  refine aw_call (s_laws_markTrailS _ _ W4 0 _ _ slr_auto ol_auto om_auto om_auto) ?_
  rintro _ h7 ⟨rfl, y7, q7, -⟩
  have m7 := y7.1
  have d7_2 : ∀ c ∈ W2, c ∉ W4 := dis_own p2 o4 om_auto
  have z7_2 : SlRep h7 w2 ((openT x0)) W2 := slr_kp1 y7 slr_auto d7_2
  have oz7_2 := (ol_kp1 y7 (ol_ext1 ext_auto (ol_mk oz6_2 z6_2 (Nat.le_refl _))) d7_2).1
  (repeat' first|refine vs ?_|(refine br ?_ ?_<;>intro _<;>try(exfalso;first|omega|contradiction))|((with_reducible refine g_idx ?_);((first|refine ix ?_|refine ixi ?_|(refine ixg ?_;intro _ _)|(refine ixgi ?_;intro _ _));first|rintro _ _ _ _ _ ⟨rfl,rfl⟩ _|rintro _ _ _ _ _ ⟨_,rfl,_⟩ _|rintro _ _ _ _ _ ⟨_,_,_,_,rfl,rfl,_,_⟩ _|intro _ _ _ _ _ _ _))|(refine sx ?_;intro _ _)|((with_reducible refine g_awp ?_);simp only [g0,g1,g2]))
  refine aw_rcall (s_laws_heldTrailS ((openT x0)) _ _ 1 _ slr_auto om_auto om_auto) ?_
  (repeat' first|refine vs ?_|(refine br ?_ ?_<;>intro _<;>try(exfalso;first|omega|contradiction))|((with_reducible refine g_idx ?_);((first|refine ix ?_|refine ixi ?_|(refine ixg ?_;intro _ _)|(refine ixgi ?_;intro _ _));first|rintro _ _ _ _ _ ⟨rfl,rfl⟩ _|rintro _ _ _ _ _ ⟨_,rfl,_⟩ _|rintro _ _ _ _ _ ⟨_,_,_,_,rfl,rfl,_,_⟩ _|intro _ _ _ _ _ _ _))|(refine sx ?_;intro _ _)|((with_reducible refine g_awp ?_);simp only [g0,g1,g2]))
  refine aw_call (copy_r s_laws_toStripeS slr_auto om_auto) ?_
  rintro w8 h8 ⟨e8, W8, p8, o8⟩
  have m8 := e8.1; (try simp only [push_n, upd_n] at m8)
  (repeat' first|refine vs ?_|(refine br ?_ ?_<;>intro _<;>try(exfalso;first|omega|contradiction))|((with_reducible refine g_idx ?_);((first|refine ix ?_|refine ixi ?_|(refine ixg ?_;intro _ _)|(refine ixgi ?_;intro _ _));first|rintro _ _ _ _ _ ⟨rfl,rfl⟩ _|rintro _ _ _ _ _ ⟨_,rfl,_⟩ _|rintro _ _ _ _ _ ⟨_,_,_,_,rfl,rfl,_,_⟩ _|intro _ _ _ _ _ _ _))|(refine sx ?_;intro _ _)|((with_reducible refine g_awp ?_);simp only [g0,g1,g2]))
  refine aw_call (s_impl_OpenTrails (l := x0) om_auto slr_auto) ?_
  rintro w9 h9 ⟨e9, W9, p9, o9⟩
  have m9 := e9.1; (try simp only [push_n, upd_n] at m9)
  (repeat' first|refine vs ?_|(refine br ?_ ?_<;>intro _<;>try(exfalso;first|omega|contradiction))|((with_reducible refine g_idx ?_);((first|refine ix ?_|refine ixi ?_|(refine ixg ?_;intro _ _)|(refine ixgi ?_;intro _ _));first|rintro _ _ _ _ _ ⟨rfl,rfl⟩ _|rintro _ _ _ _ _ ⟨_,rfl,_⟩ _|rintro _ _ _ _ _ ⟨_,_,_,_,rfl,rfl,_,_⟩ _|intro _ _ _ _ _ _ _))|(refine sx ?_;intro _ _)|((with_reducible refine g_awp ?_);simp only [g0,g1,g2]))
  refine aw_rcall (s_laws_eqTrailS _ _ _ _ _ _ slr_auto slr_auto) ?_
  (repeat' first|refine vs ?_|(refine br ?_ ?_<;>intro _<;>try(exfalso;first|omega|contradiction))|((with_reducible refine g_idx ?_);((first|refine ix ?_|refine ixi ?_|(refine ixg ?_;intro _ _)|(refine ixgi ?_;intro _ _));first|rintro _ _ _ _ _ ⟨rfl,rfl⟩ _|rintro _ _ _ _ _ ⟨_,rfl,_⟩ _|rintro _ _ _ _ _ ⟨_,_,_,_,rfl,rfl,_,_⟩ _|intro _ _ _ _ _ _ _))|(refine sx ?_;intro _ _)|((with_reducible refine g_awp ?_);simp only [g0,g1,g2]))
  refine aw_rcall (s_laws_heldTrailS ((openT x0)) _ _ 1 _ slr_auto om_auto om_auto) ?_
  (repeat' first|refine vs ?_|(refine br ?_ ?_<;>intro _<;>try(exfalso;first|omega|contradiction))|((with_reducible refine g_idx ?_);((first|refine ix ?_|refine ixi ?_|(refine ixg ?_;intro _ _)|(refine ixgi ?_;intro _ _));first|rintro _ _ _ _ _ ⟨rfl,rfl⟩ _|rintro _ _ _ _ _ ⟨_,rfl,_⟩ _|rintro _ _ _ _ _ ⟨_,_,_,_,rfl,rfl,_,_⟩ _|intro _ _ _ _ _ _ _))|(refine sx ?_;intro _ _)|((with_reducible refine g_awp ?_);simp only [g0,g1,g2]))
  exact pb rfl
end Go.Proofs.Ytpcgbddmdipfbaa
