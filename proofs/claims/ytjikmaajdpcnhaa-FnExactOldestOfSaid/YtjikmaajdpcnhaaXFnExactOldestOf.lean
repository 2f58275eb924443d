
/- The law FnExactOldestOf, walked. Written by mkxb.py. -/
import Derived.Test.YtjikmaajdpcnhaaW18
import Derived.Test.YtjikmaajdpcnhaaLStripe
import Derived.Test.YtjikmaajdpcnhaaMStripe
import Derived.Test.YtjikmaajdpcnhaaMTrail
set_option linter.unusedSimpArgs false
set_option linter.unusedVariables false
set_option maxHeartbeats 2000000
namespace Go.Proofs.Ytjikmaajdpcnhaa
open Go Go.Ab
section
/- laws.FnExactOldestOf -/
def p_laws_FnExactOldestOf (x0 : AV) : Prog := .op (.call n_laws_szStripeS [x0, AV.int .i64 1048576]) fun v1 => .op (.bin 0 .lss v1 (AV.int .i64 0)) fun v2 => .ite v2 (.fin [.val (AV.bool true)]) (.op (.call n_laws_toStripeS [x0]) fun v3 => .op (.call n_spec_OldestOf [v3]) fun v4 => .op (.ext v4 0) fun v5 => .op (.ext v4 1) fun v6 => .op (.alloc [AV.int .i64 0, AV.int .i64 0, AV.int .i64 0, AV.nils]) fun v7 => .op (.st 4 v7 v5) fun v8 => .op (.call n_laws_toStripeS [x0]) fun v9 => .op (.call n_impl_OldestOf [v9]) fun v10 => .op (.ext v10 0) fun v11 => .op (.ext v10 1) fun v12 => .op (.alloc [AV.int .i64 0, AV.int .i64 0, AV.int .i64 0, AV.nils]) fun v13 => .op (.st 4 v13 v11) fun v14 => .op (.ldn 4 v13) fun v15 => .op (.ldn 4 v7) fun v16 => .op (.call n_laws_eqTrail [v15, v16]) fun v17 => .op (.una .not v17) fun v18 => .gop v18 false (.mv v12) fun v19 => .gop v18 false (.mv v6) fun v20 => .gop v18 false (.bin 2 .neq v19 v20) fun v21 => .op (.pick v18 (AV.bool true) v21) fun v22 => .ite v22 (.fin [.val (AV.bool false)]) (.op (.call n_laws_toStripeS [x0]) fun v23 => .op (.call n_laws_eqStripeS [v9, v23]) fun v24 => .op (.una .not v24) fun v25 => .ite v25 (.fin [.val (AV.bool false)]) (.op (.call n_laws_markStripeS [v9, AV.int .i64 1]) fun v26 => .op (.bin 0 .lss v26 (AV.int .i64 0)) fun v27 => .gop v27 false (.ldn 4 v13) fun v28 => .gop v27 false (.ldn 4 v7) fun v29 => .gop v27 false (.call n_laws_eqTrail [v28, v29]) fun v30 => .gop v27 false (.una .not v30) fun v31 => .op (.pick v27 (AV.bool true) v31) fun v32 => .gop v32 false (.mv v12) fun v33 => .gop v32 false (.mv v6) fun v34 => .gop v32 false (.bin 2 .neq v33 v34) fun v35 => .op (.pick v32 (AV.bool true) v35) fun v36 => .ite v36 (.fin [.val (AV.bool false)]) (.op (.ldn 4 v13) fun v37 => .op (.call n_laws_markTrail [v37, AV.int .i64 1]) fun v38 => .op (.ldn 4 v13) fun v39 => .op (.call n_laws_heldTrail [v39, AV.int .i64 1]) fun v40 => .op (.bin 0 .lss v40 (AV.int .i64 0)) fun v41 => .ite v41 (.fin [.val (AV.bool false)]) (.op (.bin 0 .neq v40 v38) fun v42 => .ite v42 (.fin [.val (AV.bool false)]) (.op (.call n_laws_toStripeS [x0]) fun v43 => .op (.call n_impl_OldestOf [v43]) fun v44 => .op (.ext v44 0) fun v45 => .op (.ext v44 1) fun v46 => .op (.alloc [AV.int .i64 0, AV.int .i64 0, AV.int .i64 0, AV.nils]) fun v47 => .op (.st 4 v47 v45) fun v48 => .op (.ldn 4 v47) fun v49 => .op (.ldn 4 v7) fun v50 => .op (.call n_laws_eqTrail [v49, v50]) fun v51 => .op (.una .not v51) fun v52 => .gop v52 false (.mv v46) fun v53 => .gop v52 false (.mv v6) fun v54 => .gop v52 false (.bin 2 .neq v53 v54) fun v55 => .op (.pick v52 (AV.bool true) v55) fun v56 => .ite v56 (.fin [.val (AV.bool false)]) (.op (.ldn 4 v13) fun v57 => .op (.call n_laws_heldTrail [v57, AV.int .i64 1]) fun v58 => .op (.bin 0 .lss v58 (AV.int .i64 0)) fun v59 => .ite v59 (.fin [.val (AV.bool false)]) (.op (.bin 0 .neq v58 v38) fun v60 => .ite v60 (.fin [.val (AV.bool false)]) (.fin [.val (AV.bool true)])))))))))
theorem c_laws_FnExactOldestOf (x0 : AV) {h : AH} {R : AV → AH → Prop} (g : (p_laws_FnExactOldestOf x0).awp Try.prog h fun t vs h' => t = 1 ∧ ∃ v, vs = [v] ∧ R v h') : ACalls Try.prog n_laws_FnExactOldestOf [x0] h R :=
  acalls_of follows Try.func9 (by kernel_rfl) (by kernel_rfl) [] (fun _ => []) (show trF Try.prog Try.f9 _ _ [x0] = p_laws_FnExactOldestOf x0 by kernel_rfl) g
end
theorem law_FnExactOldestOf {h : AH} {v0 : AV} {x0 : List Stripe} {F0 : List Nat} (r0 : SlRep h v0 x0 F0) (k0 : ∀ x ∈ x0, Cel.ok x) : RCalls Try.prog n_laws_FnExactOldestOf [v0] h (.bool true) := by
  refine reader (c_laws_FnExactOldestOf _) (by simp only [old]) ?_
  unfold p_laws_FnExactOldestOf
  (repeat' first|refine vs ?_|(refine br ?_ ?_<;>intro _<;>try(exfalso;first|omega|contradiction))|((with_reducible refine g_callf n_laws_szStripeS ?_);(refine aw_sz (szl s_laws_szStripeS slr_auto (by assumption) om_auto om_auto) (fun _ => ?_) (fun _ => ?_)))|((with_reducible refine g_idx ?_);((first|refine ix ?_|refine ixi ?_|(refine ixg ?_;intro _ _)|(refine ixgi ?_;intro _ _));first|rintro _ _ _ _ _ ⟨rfl,rfl⟩ _|rintro _ _ _ _ _ ⟨_,rfl,_⟩ _|rintro _ _ _ _ _ ⟨_,_,_,_,rfl,rfl,_,_⟩ _|intro _ _ _ _ _ _ _))|(refine sx ?_;intro _ _)|((with_reducible refine g_awp ?_);simp only [g0,g1,g2]))
  all_goals first | exact pb rfl | skip
  have hv1 : Sz.sz ((oldest (allT x0)).getD zeroT) ≤ szs x0 := oldest_sz x0
  have hv2 : Sz.sz ((oldest (allT x0)).getD zeroT) = ((oldest (allT x0)).getD zeroT).spans.length + szs ((oldest (allT x0)).getD zeroT).spans := rfl
  refine aw_call (copy_r s_laws_toStripeS slr_auto om_auto) ?_
  rintro w1 h1 ⟨e1, W1, p1, o1⟩
  have m1 := e1.1; (try simp only [push_n, upd_n] at m1)
  (repeat' first|refine vs ?_|(refine br ?_ ?_<;>intro _<;>try(exfalso;first|omega|contradiction))|((with_reducible refine g_idx ?_);((first|refine ix ?_|refine ixi ?_|(refine ixg ?_;intro _ _)|(refine ixgi ?_;intro _ _));first|rintro _ _ _ _ _ ⟨rfl,rfl⟩ _|rintro _ _ _ _ _ ⟨_,rfl,_⟩ _|rintro _ _ _ _ _ ⟨_,_,_,_,rfl,rfl,_,_⟩ _|intro _ _ _ _ _ _ _))|(refine sx ?_;intro _ _)|((with_reducible refine g_awp ?_);simp only [g0,g1,g2]))
  refine aw_call (s_spec_OldestOf (l := x0) om_auto slr_auto) ?_
  rintro _ h2 ⟨e2, _, W2, rfl, ⟨w2, rfl, p2⟩, o2⟩
  have m2 := e2.1; (try simp only [push_n, upd_n] at m2)
  (repeat' first|refine vs ?_|(refine br ?_ ?_<;>intro _<;>try(exfalso;first|omega|contradiction))|((with_reducible refine g_idx ?_);((first|refine ix ?_|refine ixi ?_|(refine ixg ?_;intro _ _)|(refine ixgi ?_;intro _ _));first|rintro _ _ _ _ _ ⟨rfl,rfl⟩ _|rintro _ _ _ _ _ ⟨_,rfl,_⟩ _|rintro _ _ _ _ _ ⟨_,_,_,_,rfl,rfl,_,_⟩ _|intro _ _ _ _ _ _ _))|(refine sx ?_;intro _ _)|((with_reducible refine g_awp ?_);simp only [g0,g1,g2]))
  refine aw_call (copy_r s_laws_toStripeS slr_auto om_auto) ?_
  rintro w3 h3 ⟨e3, W3, p3, o3⟩
  have m3 := e3.1; (try simp only [push_n, upd_n] at m3)
  (repeat' first|refine vs ?_|(refine br ?_ ?_<;>intro _<;>try(exfalso;first|omega|contradiction))|((with_reducible refine g_idx ?_);((first|refine ix ?_|refine ixi ?_|(refine ixg ?_;intro _ _)|(refine ixgi ?_;intro _ _));first|rintro _ _ _ _ _ ⟨rfl,rfl⟩ _|rintro _ _ _ _ _ ⟨_,rfl,_⟩ _|rintro _ _ _ _ _ ⟨_,_,_,_,rfl,rfl,_,_⟩ _|intro _ _ _ _ _ _ _))|(refine sx ?_;intro _ _)|((with_reducible refine g_awp ?_);simp only [g0,g1,g2]))
  refine aw_call (s_impl_OldestOf (l := x0) om_auto slr_auto) ?_
  rintro _ h4 ⟨e4, _, W4, rfl, ⟨w4, rfl, p4⟩, o4⟩
  have m4 := e4.1; (try simp only [push_n, upd_n] at m4)
  (repeat' first|refine vs ?_|(refine br ?_ ?_<;>intro _<;>try(exfalso;first|omega|contradiction))|((with_reducible refine g_idx ?_);((first|refine ix ?_|refine ixi ?_|(refine ixg ?_;intro _ _)|(refine ixgi ?_;intro _ _));first|rintro _ _ _ _ _ ⟨rfl,rfl⟩ _|rintro _ _ _ _ _ ⟨_,rfl,_⟩ _|rintro _ _ _ _ _ ⟨_,_,_,_,rfl,rfl,_,_⟩ _|intro _ _ _ _ _ _ _))|(refine sx ?_;intro _ _)|((with_reducible refine g_awp ?_);simp only [g0,g1,g2]))
  refine aw_rcall (s_laws_eqTrail _ _ _ _ _ _ ⟨_, rfl, slr_auto⟩ ⟨_, rfl, slr_auto⟩) ?_
  (repeat' first|refine vs ?_|(refine br ?_ ?_<;>intro _<;>try(exfalso;first|omega|contradiction))|((with_reducible refine g_idx ?_);((first|refine ix ?_|refine ixi ?_|(refine ixg ?_;intro _ _)|(refine ixgi ?_;intro _ _));first|rintro _ _ _ _ _ ⟨rfl,rfl⟩ _|rintro _ _ _ _ _ ⟨_,rfl,_⟩ _|rintro _ _ _ _ _ ⟨_,_,_,_,rfl,rfl,_,_⟩ _|intro _ _ _ _ _ _ _))|(refine sx ?_;intro _ _)|((with_reducible refine g_awp ?_);simp only [g0,g1,g2]))
  refine aw_call (copy_r s_laws_toStripeS slr_auto om_auto) ?_
  rintro w5 h5 ⟨e5, W5, p5, o5⟩
  have m5 := e5.1; (try simp only [push_n, upd_n] at m5)
  (repeat' first|refine vs ?_|(refine br ?_ ?_<;>intro _<;>try(exfalso;first|omega|contradiction))|((with_reducible refine g_idx ?_);((first|refine ix ?_|refine ixi ?_|(refine ixg ?_;intro _ _)|(refine ixgi ?_;intro _ _));first|rintro _ _ _ _ _ ⟨rfl,rfl⟩ _|rintro _ _ _ _ _ ⟨_,rfl,_⟩ _|rintro _ _ _ _ _ ⟨_,_,_,_,rfl,rfl,_,_⟩ _|intro _ _ _ _ _ _ _))|(refine sx ?_;intro _ _)|((with_reducible refine g_awp ?_);simp only [g0,g1,g2]))
  refine aw_rcall (s_laws_eqStripeS _ _ _ _ _ _ slr_auto slr_auto) ?_
  (repeat' first|refine vs ?_|(refine br ?_ ?_<;>intro _<;>try(exfalso;first|omega|contradiction))|((with_reducible refine g_idx ?_);((first|refine ix ?_|refine ixi ?_|(refine ixg ?_;intro _ _)|(refine ixgi ?_;intro _ _));first|rintro _ _ _ _ _ ⟨rfl,rfl⟩ _|rintro _ _ _ _ _ ⟨_,rfl,_⟩ _|rintro _ _ _ _ _ ⟨_,_,_,_,rfl,rfl,_,_⟩ _|intro _ _ _ _ _ _ _))|(refine sx ?_;intro _ _)|((with_reducible refine g_awp ?_);simp only [g0,g1,g2]))
  have c6 := mks_cnt32 x0 (1)
  have u6 := mks_upF x0 (1)
  refine aw_call (s_laws_markStripeS _ _ W3 0 _ _ slr_auto ol_auto om_auto om_auto) ?_
  rintro _ h6 ⟨rfl, y6, q6, -⟩
  have m6 := y6.1
  have d6_2 : ∀ c ∈ W2, c ∉ W3 := dis_own p2 o3 om_auto
  have z6_2 : SlRep h6 w2 (((oldest (allT x0)).getD zeroT)).spans W2 := slr_kp1 y6 slr_auto d6_2
  have oz6_2 := (ol_kp1 y6 (ol_ext1 ext_auto (ol_mk o2 p2 (Nat.le_refl _))) d6_2).1
  have bx6_2 : Bk h6 h2.n [.int .i64 (((oldest (allT x0)).getD zeroT)).id, .int .i64 (((oldest (allT x0)).getD zeroT)).stamp, .int .i64 (((oldest (allT x0)).getD zeroT)).first, w2] 0 := bk_kp1 y6 bk_auto (nin_own o3 om_auto)
  have d6_4 : ∀ c ∈ W4, c ∉ W3 := dis_own2 o4 p3 om_auto
  have z6_4 : SlRep h6 w4 (((oldest (allT x0)).getD zeroT)).spans W4 := slr_kp1 y6 slr_auto d6_4
  have oz6_4 := (ol_kp1 y6 (ol_ext1 ext_auto (ol_mk o4 p4 (Nat.le_refl _))) d6_4).1
  have bx6_4 : Bk h6 h4.n [.int .i64 (((oldest (allT x0)).getD zeroT)).id, .int .i64 (((oldest (allT x0)).getD zeroT)).stamp, .int .i64 (((oldest (allT x0)).getD zeroT)).first, w4] 0 := bk_kp1 y6 bk_auto (nin_lt p3 om_auto)
  (repeat' first|refine vs ?_|(refine br ?_ ?_<;>intro _<;>try(exfalso;first|omega|contradiction))|((with_reducible refine g_idx ?_);((first|refine ix ?_|refine ixi ?_|(refine ixg ?_;intro _ _)|(refine ixgi ?_;intro _ _));first|rintro _ _ _ _ _ ⟨rfl,rfl⟩ _|rintro _ _ _ _ _ ⟨_,rfl,_⟩ _|rintro _ _ _ _ _ ⟨_,_,_,_,rfl,rfl,_,_⟩ _|intro _ _ _ _ _ _ _))|(refine sx ?_;intro _ _)|((with_reducible refine g_awp ?_);simp only [g0,g1,g2]))
  refine aw_rcall (s_laws_eqTrail _ _ _ _ _ _ ⟨_, rfl, slr_auto⟩ ⟨_, rfl, slr_auto⟩) ?_
  (repeat' first|refine vs ?_|(refine br ?_ ?_<;>intro _<;>try(exfalso;first|omega|contradiction))|((with_reducible refine g_idx ?_);((first|refine ix ?_|refine ixi ?_|(refine ixg ?_;intro _ _)|(refine ixgi ?_;intro _ _));first|rintro _ _ _ _ _ ⟨rfl,rfl⟩ _|rintro _ _ _ _ _ ⟨_,rfl,_⟩ _|rintro _ _ _ _ _ ⟨_,_,_,_,rfl,rfl,_,_⟩ _|intro _ _ _ _ _ _ _))|(refine sx ?_;intro _ _)|((with_reducible refine g_awp ?_);simp only [g0,g1,g2]))
  have c7 := mks_cnt32 ((((oldest (allT x0)).getD zeroT)).spans) (1)
  have u7 := mks_upF ((((oldest (allT x0)).getD zeroT)).spans) (1)
  refine aw_call (s_laws_markTrail (x := ((oldest (allT x0)).getD zeroT)) (F := W4) (n := 0) slr_auto ol_auto om_auto om_auto) ?_
  rintro _ h7 ⟨rfl, y7, q7, -⟩
  have m7 := y7.1
  have d7_2 : ∀ c ∈ W2, c ∉ W4 := dis_own p2 o4 om_auto
  have z7_2 : SlRep h7 w2 (((oldest (allT x0)).getD zeroT)).spans W2 := slr_kp1 y7 slr_auto d7_2
  have oz7_2 := (ol_kp1 y7 (ol_ext1 ext_auto (ol_mk oz6_2 z6_2 (Nat.le_refl _))) d7_2).1
  have bx7_2 : Bk h7 h2.n [.int .i64 (((oldest (allT x0)).getD zeroT)).id, .int .i64 (((oldest (allT x0)).getD zeroT)).stamp, .int .i64 (((oldest (allT x0)).getD zeroT)).first, w2] 0 := bk_kp1 y7 bk_auto (nin_own o4 om_auto)
  have bx7_4 : Bk h7 h4.n [.int .i64 (((oldest (allT x0)).getD zeroT)).id, .int .i64 (((oldest (allT x0)).getD zeroT)).stamp, .int .i64 (((oldest (allT x0)).getD zeroT)).first, w4] 0 := bk_kp1 y7 bk_auto (nin_lt p4 om_auto)
  (repeat' first|refine vs ?_|(refine br ?_ ?_<;>intro _<;>try(exfalso;first|omega|contradiction))|((with_reducible refine g_idx ?_);((first|refine ix ?_|refine ixi ?_|(refine ixg ?_;intro _ _)|(refine ixgi ?_;intro _ _));first|rintro _ _ _ _ _ ⟨rfl,rfl⟩ _|rintro _ _ _ _ _ ⟨_,rfl,_⟩ _|rintro _ _ _ _ _ ⟨_,_,_,_,rfl,rfl,_,_⟩ _|intro _ _ _ _ _ _ _))|(refine sx ?_;intro _ _)|((with_reducible refine g_awp ?_);simp only [g0,g1,g2]))
  refine aw_rcall (s_laws_heldTrail (x := ((oldest (allT x0)).getD zeroT)) (m := 1) slr_auto om_auto om_auto) ?_
  (repeat' first|refine vs ?_|(refine br ?_ ?_<;>intro _<;>try(exfalso;first|omega|contradiction))|((with_reducible refine g_idx ?_);((first|refine ix ?_|refine ixi ?_|(refine ixg ?_;intro _ _)|(refine ixgi ?_;intro _ _));first|rintro _ _ _ _ _ ⟨rfl,rfl⟩ _|rintro _ _ _ _ _ ⟨_,rfl,_⟩ _|rintro _ _ _ _ _ ⟨_,_,_,_,rfl,rfl,_,_⟩ _|intro _ _ _ _ _ _ _))|(refine sx ?_;intro _ _)|((with_reducible refine g_awp ?_);simp only [g0,g1,g2]))
  refine aw_call (copy_r s_laws_toStripeS slr_auto om_auto) ?_
  rintro w8 h8 ⟨e8, W8, p8, o8⟩
  have m8 := e8.1; (try simp only [push_n, upd_n] at m8)
  (repeat' first|refine vs ?_|(refine br ?_ ?_<;>intro _<;>try(exfalso;first|omega|contradiction))|((with_reducible refine g_idx ?_);((first|refine ix ?_|refine ixi ?_|(refine ixg ?_;intro _ _)|(refine ixgi ?_;intro _ _));first|rintro _ _ _ _ _ ⟨rfl,rfl⟩ _|rintro _ _ _ _ _ ⟨_,rfl,_⟩ _|rintro _ _ _ _ _ ⟨_,_,_,_,rfl,rfl,_,_⟩ _|intro _ _ _ _ _ _ _))|(refine sx ?_;intro _ _)|((with_reducible refine g_awp ?_);simp only [g0,g1,g2]))
  refine aw_call (s_impl_OldestOf (l := x0) om_auto slr_auto) ?_
  rintro _ h9 ⟨e9, _, W9, rfl, ⟨w9, rfl, p9⟩, o9⟩
  have m9 := e9.1; (try simp only [push_n, upd_n] at m9)
  (repeat' first|refine vs ?_|(refine br ?_ ?_<;>intro _<;>try(exfalso;first|omega|contradiction))|((with_reducible refine g_idx ?_);((first|refine ix ?_|refine ixi ?_|(refine ixg ?_;intro _ _)|(refine ixgi ?_;intro _ _));first|rintro _ _ _ _ _ ⟨rfl,rfl⟩ _|rintro _ _ _ _ _ ⟨_,rfl,_⟩ _|rintro _ _ _ _ _ ⟨_,_,_,_,rfl,rfl,_,_⟩ _|intro _ _ _ _ _ _ _))|(refine sx ?_;intro _ _)|((with_reducible refine g_awp ?_);simp only [g0,g1,g2]))
  refine aw_rcall (s_laws_eqTrail _ _ _ _ _ _ ⟨_, rfl, slr_auto⟩ ⟨_, rfl, slr_auto⟩) ?_
  (repeat' first|refine vs ?_|(refine br ?_ ?_<;>intro _<;>try(exfalso;first|omega|contradiction))|((with_reducible refine g_idx ?_);((first|refine ix ?_|refine ixi ?_|(refine ixg ?_;intro _ _)|(refine ixgi ?_;intro _ _));first|rintro _ _ _ _ _ ⟨rfl,rfl⟩ _|rintro _ _ _ _ _ ⟨_,rfl,_⟩ _|rintro _ _ _ _ _ ⟨_,_,_,_,rfl,rfl,_,_⟩ _|intro _ _ _ _ _ _ _))|(refine sx ?_;intro _ _)|((with_reducible refine g_awp ?_);simp only [g0,g1,g2]))
  refine aw_rcall (s_laws_heldTrail (x := ((oldest (allT x0)).getD zeroT)) (m := 1) slr_auto om_auto om_auto) ?_
  (repeat' first|refine vs ?_|(refine br ?_ ?_<;>intro _<;>try(exfalso;first|omega|contradiction))|((with_reducible refine g_idx ?_);((first|refine ix ?_|refine ixi ?_|(refine ixg ?_;intro _ _)|(refine ixgi ?_;intro _ _));first|rintro _ _ _ _ _ ⟨rfl,rfl⟩ _|rintro _ _ _ _ _ ⟨_,rfl,_⟩ _|rintro _ _ _ _ _ ⟨_,_,_,_,rfl,rfl,_,_⟩ _|intro _ _ _ _ _ _ _))|(refine sx ?_;intro _ _)|((with_reducible refine g_awp ?_);simp only [g0,g1,g2]))
  exact pb rfl
end Go.Proofs.Ytjikmaajdpcnhaa
