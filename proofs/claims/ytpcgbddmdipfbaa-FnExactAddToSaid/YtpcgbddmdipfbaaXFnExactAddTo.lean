/- The law FnExactAddTo, walked. Written by mkxb.py. -/
import Derived.Test.YtpcgbddmdipfbaaW56
import Derived.Test.YtpcgbddmdipfbaaLTrail
import Derived.Test.YtpcgbddmdipfbaaLSpan
import Derived.Test.YtpcgbddmdipfbaaMTrail
import Derived.Test.YtpcgbddmdipfbaaMSpan
set_option linter.unusedSimpArgs false
set_option linter.unusedVariables false
set_option maxHeartbeats 2000000
namespace Go.Proofs.Ytpcgbddmdipfbaa
open Go Go.Ab
section
/- laws.FnExactAddTo -/
def p_laws_FnExactAddTo (x0 x1 x2 x3 : AV) : Prog := .op (.box x1) fun v1 => .op (.call n_laws_szTrailS [x0, AV.int .i64 1048576]) fun v2 => .op (.bin 0 .lss v2 (AV.int .i64 0)) fun v3 => .ite v3 (.fin [.val (AV.bool true)]) (.op (.ldn 6 v1) fun v4 => .op (.call n_laws_szSpan [v4, v2]) fun v5 => .op (.bin 0 .lss v5 (AV.int .i64 0)) fun v6 => .ite v6 (.fin [.val (AV.bool true)]) (.op (.ldn 6 v1) fun v7 => .op (.call n_laws_toTrailS [x0]) fun v8 => .chk (.ldn 6 v1) v7 (.op (.call n_laws_toSpan [v7]) fun v9 => .op (.call n_spec_AddTo [v8, v9, x2, x3]) fun v10 => .op (.call n_laws_toTrailS [x0]) fun v11 => .op (.ldn 6 v1) fun v12 => .op (.call n_laws_toSpan [v12]) fun v13 => .op (.alloc z6_822) fun v14 => .op (.st 6 v14 v13) fun v15 => .op (.ldn 6 v14) fun v16 => .op (.call n_impl_AddTo [v11, v16, x2, x3]) fun v17 => .op (.call n_laws_eqTrailS [v17, v10]) fun v18 => .op (.una .not v18) fun v19 => .ite v19 (.fin [.val (AV.bool false)]) (.op (.call n_laws_toTrailS [x0]) fun v20 => .op (.call n_laws_eqTrailS [v11, v20]) fun v21 => .op (.una .not v21) fun v22 => .ite v22 (.fin [.val (AV.bool false)]) (.op (.ldn 6 v14) fun v23 => .op (.ldn 6 v1) fun v24 => .op (.call n_laws_toSpan [v24]) fun v25 => .chk (.ldn 6 v14) v23 (.op (.call n_laws_eqSpan [v23, v25]) fun v26 => .op (.una .not v26) fun v27 => .ite v27 (.fin [.val (AV.bool false)]) (.op (.call n_laws_markTrailS [v11, AV.int .i64 1]) fun v28 => .op (.ldn 6 v14) fun v29 => .op (.call n_laws_markSpan [v29, v28]) fun v30 => .op (.bin 0 .lss v30 (AV.int .i64 0)) fun v31 => .gop v31 false (.mv v17) fun v32 => .gop v31 false (.mv v10) fun v33 => .gop v31 false (.call n_laws_eqTrailS [v32, v33]) fun v34 => .gop v31 false (.una .not v34) fun v35 => .op (.pick v31 (AV.bool true) v35) fun v36 => .ite v36 (.fin [.val (AV.bool false)]) (.op (.call n_laws_markTrailS [v17, AV.int .i64 1]) fun v37 => .op (.call n_laws_heldTrailS [v17, AV.int .i64 1]) fun v38 => .op (.bin 0 .lss v38 (AV.int .i64 0)) fun v39 => .ite v39 (.fin [.val (AV.bool false)]) (.op (.bin 0 .neq v38 v37) fun v40 => .ite v40 (.fin [.val (AV.bool false)]) (.op (.ldn 6 v1) fun v41 => .op (.call n_laws_toTrailS [x0]) fun v42 => .chk (.ldn 6 v1) v41 (.op (.call n_laws_toSpan [v41]) fun v43 => .op (.call n_impl_AddTo [v42, v43, x2, x3]) fun v44 => .op (.call n_laws_eqTrailS [v44, v10]) fun v45 => .op (.una .not v45) fun v46 => .ite v46 (.fin [.val (AV.bool false)]) (.op (.call n_laws_heldTrailS [v17, AV.int .i64 1]) fun v47 => .op (.bin 0 .lss v47 (AV.int .i64 0)) fun v48 => .ite v48 (.fin [.val (AV.bool false)]) (.op (.bin 0 .neq v47 v37) fun v49 => .ite v49 (.fin [.val (AV.bool false)]) (.fin [.val (AV.bool true)]))))))))))))))
theorem c_laws_FnExactAddTo (x0 x1 x2 x3 : AV) : CC Try.prog n_laws_FnExactAddTo [x0, x1, x2, x3] (p_laws_FnExactAddTo x0 x1 x2 x3) := cc Try.func4 [] (fun r => if r = 8 then [(0, []), (2, []), (4, []), (5, []), (1, [2]), (3, []), (6, []), (7, [])] else if r = 16 then [(0, []), (1, []), (2, [0]), (3, []), (4, [])] else if r = 31 then [(0, []), (2, []), (4, []), (5, []), (1, [2]), (3, []), (6, []), (7, [])] else []) (by kernel_rfl)
end
theorem law_FnExactAddTo {h : AH} {v0 : AV} {x0 : List Trail} {F0 : List Nat} (r0 : SlRep h v0 x0 F0) (k0 : ∀ x ∈ x0, Cel.ok x) {cs1 : List AV} {x1 : Span} {F1 : List Nat} (r1 : Cel.rep h x1 cs1 F1) (k1 : Cel.ok x1) {n2 : Int} (k2 : rng n2) {n3 : Int} (k3 : rng n3) : RCalls Try.prog n_laws_FnExactAddTo [v0, .agg cs1, .int .i64 n2, .int .i64 n3] h (.bool true) := by
  obtain ⟨u1_0, rfl, q1_0⟩ := r1
  have hz1 : Sz.sz x1 = x1.attrs.length + szs x1.attrs := rfl
  refine reader (c_laws_FnExactAddTo _ _ _ _) (by simp only [old]) ?_
  unfold p_laws_FnExactAddTo
  (repeat' first|refine vs ?_|(refine br ?_ ?_<;>intro _<;>try(exfalso;first|omega|contradiction))|((with_reducible refine g_callf n_laws_szTrailS ?_);(refine aw_sz (szl s_laws_szTrailS slr_auto (by assumption) om_auto om_auto) (fun _ => ?_) (fun _ => ?_)))|((with_reducible refine g_callf n_laws_szSpan ?_);(refine aw_sz (s_laws_szSpan _ (by assumption) _ _ _ _ ⟨_, rfl, slr_auto⟩ om_auto om_auto) (fun _ => ?_) (fun _ => ?_)))|((with_reducible refine g_idx ?_);((first|refine ix ?_|refine ixi ?_|(refine ixg ?_;intro _ _)|(refine ixgi ?_;intro _ _));first|rintro _ _ _ _ _ ⟨rfl,rfl⟩ _|rintro _ _ _ _ _ ⟨_,rfl,_⟩ _|rintro _ _ _ _ _ ⟨_,_,_,_,rfl,rfl,_,_⟩ _|intro _ _ _ _ _ _ _))|(refine sx ?_;intro _ _)|((with_reducible refine g_awp ?_);simp only [g0,g1,g2]))
  all_goals first | exact pb rfl | skip
  have hv1 := addTo_sz x0 x1 n2 n3
  refine aw_call (copy_r s_laws_toTrailS slr_auto om_auto) ?_
  rintro w1 h1 ⟨e1, W1, p1, o1⟩
  have m1 := e1.1; (try simp only [push_n, upd_n] at m1)
  (repeat' first|refine vs ?_|(refine br ?_ ?_<;>intro _<;>try(exfalso;first|omega|contradiction))|((with_reducible refine g_idx ?_);((first|refine ix ?_|refine ixi ?_|(refine ixg ?_;intro _ _)|(refine ixgi ?_;intro _ _));first|rintro _ _ _ _ _ ⟨rfl,rfl⟩ _|rintro _ _ _ _ _ ⟨_,rfl,_⟩ _|rintro _ _ _ _ _ ⟨_,_,_,_,rfl,rfl,_,_⟩ _|intro _ _ _ _ _ _ _))|(refine sx ?_;intro _ _)|((with_reducible refine g_awp ?_);simp only [g0,g1,g2]))
  refine aw_call (s_laws_toSpan _ om_auto _ _ _ ⟨_, rfl, slr_auto⟩) ?_
  rintro _ h2 ⟨e2, _, W2, rfl, ⟨w2, rfl, p2⟩, o2⟩
  have m2 := e2.1; (try simp only [push_n, upd_n] at m2)
  (repeat' first|refine vs ?_|(refine br ?_ ?_<;>intro _<;>try(exfalso;first|omega|contradiction))|((with_reducible refine g_idx ?_);((first|refine ix ?_|refine ixi ?_|(refine ixg ?_;intro _ _)|(refine ixgi ?_;intro _ _));first|rintro _ _ _ _ _ ⟨rfl,rfl⟩ _|rintro _ _ _ _ _ ⟨_,rfl,_⟩ _|rintro _ _ _ _ _ ⟨_,_,_,_,rfl,rfl,_,_⟩ _|intro _ _ _ _ _ _ _))|(refine sx ?_;intro _ _)|((with_reducible refine g_awp ?_);simp only [g0,g1,g2]))
  refine aw_call (s_spec_AddTo (l := x0) (s := x1) (n := h.n) om_auto om_auto slr_auto ol_auto slr_auto) ?_
  rintro w3 h3 ⟨e3, W3, p3, o3⟩
  have m3 := e3.1; (try simp only [push_n, upd_n] at m3)
  (repeat' first|refine vs ?_|(refine br ?_ ?_<;>intro _<;>try(exfalso;first|omega|contradiction))|((with_reducible refine g_idx ?_);((first|refine ix ?_|refine ixi ?_|(refine ixg ?_;intro _ _)|(refine ixgi ?_;intro _ _));first|rintro _ _ _ _ _ ⟨rfl,rfl⟩ _|rintro _ _ _ _ _ ⟨_,rfl,_⟩ _|rintro _ _ _ _ _ ⟨_,_,_,_,rfl,rfl,_,_⟩ _|intro _ _ _ _ _ _ _))|(refine sx ?_;intro _ _)|((with_reducible refine g_awp ?_);simp only [g0,g1,g2]))
  refine aw_call (copy_r s_laws_toTrailS slr_auto om_auto) ?_
  rintro w4 h4 ⟨e4, W4, p4, o4⟩
  have m4 := e4.1; (try simp only [push_n, upd_n] at m4)
  (repeat' first|refine vs ?_|(refine br ?_ ?_<;>intro _<;>try(exfalso;first|omega|contradiction))|((with_reducible refine g_idx ?_);((first|refine ix ?_|refine ixi ?_|(refine ixg ?_;intro _ _)|(refine ixgi ?_;intro _ _));first|rintro _ _ _ _ _ ⟨rfl,rfl⟩ _|rintro _ _ _ _ _ ⟨_,rfl,_⟩ _|rintro _ _ _ _ _ ⟨_,_,_,_,rfl,rfl,_,_⟩ _|intro _ _ _ _ _ _ _))|(refine sx ?_;intro _ _)|((with_reducible refine g_awp ?_);simp only [g0,g1,g2]))
  refine aw_call (s_laws_toSpan _ om_auto _ _ _ ⟨_, rfl, slr_auto⟩) ?_
  rintro _ h5 ⟨e5, _, W5, rfl, ⟨w5, rfl, p5⟩, o5⟩
  have m5 := e5.1; (try simp only [push_n, upd_n] at m5)
  (repeat' first|refine vs ?_|(refine br ?_ ?_<;>intro _<;>try(exfalso;first|omega|contradiction))|((with_reducible refine g_idx ?_);((first|refine ix ?_|refine ixi ?_|(refine ixg ?_;intro _ _)|(refine ixgi ?_;intro _ _));first|rintro _ _ _ _ _ ⟨rfl,rfl⟩ _|rintro _ _ _ _ _ ⟨_,rfl,_⟩ _|rintro _ _ _ _ _ ⟨_,_,_,_,rfl,rfl,_,_⟩ _|intro _ _ _ _ _ _ _))|(refine sx ?_;intro _ _)|((with_reducible refine g_awp ?_);simp only [g0,g1,g2]))
  refine aw_call (s_impl_AddTo (l := x0) (s := x1) om_auto om_auto slr_auto slr_auto) ?_
  rintro w6 h6 ⟨e6, W6, p6, o6⟩
  have m6 := e6.1; (try simp only [push_n, upd_n] at m6)
  (repeat' first|refine vs ?_|(refine br ?_ ?_<;>intro _<;>try(exfalso;first|omega|contradiction))|((with_reducible refine g_idx ?_);((first|refine ix ?_|refine ixi ?_|(refine ixg ?_;intro _ _)|(refine ixgi ?_;intro _ _));first|rintro _ _ _ _ _ ⟨rfl,rfl⟩ _|rintro _ _ _ _ _ ⟨_,rfl,_⟩ _|rintro _ _ _ _ _ ⟨_,_,_,_,rfl,rfl,_,_⟩ _|intro _ _ _ _ _ _ _))|(refine sx ?_;intro _ _)|((with_reducible refine g_awp ?_);simp only [g0,g1,g2]))
  refine aw_rcall (s_laws_eqTrailS _ _ _ _ _ _ slr_auto slr_auto) ?_
  (repeat' first|refine vs ?_|(refine br ?_ ?_<;>intro _<;>try(exfalso;first|omega|contradiction))|((with_reducible refine g_idx ?_);((first|refine ix ?_|refine ixi ?_|(refine ixg ?_;intro _ _)|(refine ixgi ?_;intro _ _));first|rintro _ _ _ _ _ ⟨rfl,rfl⟩ _|rintro _ _ _ _ _ ⟨_,rfl,_⟩ _|rintro _ _ _ _ _ ⟨_,_,_,_,rfl,rfl,_,_⟩ _|intro _ _ _ _ _ _ _))|(refine sx ?_;intro _ _)|((with_reducible refine g_awp ?_);simp only [g0,g1,g2]))
  refine aw_call (copy_r s_laws_toTrailS slr_auto om_auto) ?_
  rintro w7 h7 ⟨e7, W7, p7, o7⟩
  have m7 := e7.1; (try simp only [push_n, upd_n] at m7)
  (repeat' first|refine vs ?_|(refine br ?_ ?_<;>intro _<;>try(exfalso;first|omega|contradiction))|((with_reducible refine g_idx ?_);((first|refine ix ?_|refine ixi ?_|(refine ixg ?_;intro _ _)|(refine ixgi ?_;intro _ _));first|rintro _ _ _ _ _ ⟨rfl,rfl⟩ _|rintro _ _ _ _ _ ⟨_,rfl,_⟩ _|rintro _ _ _ _ _ ⟨_,_,_,_,rfl,rfl,_,_⟩ _|intro _ _ _ _ _ _ _))|(refine sx ?_;intro _ _)|((with_reducible refine g_awp ?_);simp only [g0,g1,g2]))
  refine aw_rcall (s_laws_eqTrailS _ _ _ _ _ _ slr_auto slr_auto) ?_
  (repeat' first|refine vs ?_|(refine br ?_ ?_<;>intro _<;>try(exfalso;first|omega|contradiction))|((with_reducible refine g_idx ?_);((first|refine ix ?_|refine ixi ?_|(refine ixg ?_;intro _ _)|(refine ixgi ?_;intro _ _));first|rintro _ _ _ _ _ ⟨rfl,rfl⟩ _|rintro _ _ _ _ _ ⟨_,rfl,_⟩ _|rintro _ _ _ _ _ ⟨_,_,_,_,rfl,rfl,_,_⟩ _|intro _ _ _ _ _ _ _))|(refine sx ?_;intro _ _)|((with_reducible refine g_awp ?_);simp only [g0,g1,g2]))
  refine aw_call (s_laws_toSpan _ om_auto _ _ _ ⟨_, rfl, slr_auto⟩) ?_
  rintro _ h8 ⟨e8, _, W8, rfl, ⟨w8, rfl, p8⟩, o8⟩
  have m8 := e8.1; (try simp only [push_n, upd_n] at m8)
  (repeat' first|refine vs ?_|(refine br ?_ ?_<;>intro _<;>try(exfalso;first|omega|contradiction))|((with_reducible refine g_idx ?_);((first|refine ix ?_|refine ixi ?_|(refine ixg ?_;intro _ _)|(refine ixgi ?_;intro _ _));first|rintro _ _ _ _ _ ⟨rfl,rfl⟩ _|rintro _ _ _ _ _ ⟨_,rfl,_⟩ _|rintro _ _ _ _ _ ⟨_,_,_,_,rfl,rfl,_,_⟩ _|intro _ _ _ _ _ _ _))|(refine sx ?_;intro _ _)|((with_reducible refine g_awp ?_);simp only [g0,g1,g2]))
  refine aw_rcall (s_laws_eqSpan _ _ _ _ _ _ ⟨_, rfl, slr_auto⟩ ⟨_, rfl, slr_auto⟩) ?_
  (repeat' first|refine vs ?_|(refine br ?_ ?_<;>intro _<;>try(exfalso;first|omega|contradiction))|((with_reducible refine g_idx ?_);((first|refine ix ?_|refine ixi ?_|(refine ixg ?_;intro _ _)|(refine ixgi ?_;intro _ _));first|rintro _ _ _ _ _ ⟨rfl,rfl⟩ _|rintro _ _ _ _ _ ⟨_,rfl,_⟩ _|rintro _ _ _ _ _ ⟨_,_,_,_,rfl,rfl,_,_⟩ _|intro _ _ _ _ _ _ _))|(refine sx ?_;intro _ _)|((with_reducible refine g_awp ?_);simp only [g0,g1,g2]))
  have c9 := mks_cnt32 x0 (1)
  have u9 := mks_upF x0 (1)
  refine aw_call (s_laws_markTrailS _ _ W4 0 _ _ slr_auto ol_auto om_auto om_auto) ?_
  rintro _ h9 ⟨rfl, y9, q9, -⟩
  have m9 := y9.1
  have d9_3 : ∀ c ∈ W3, c ∉ W4 := dis_own p3 o4 om_auto
  have z9_3 : SlRep h9 w3 ((addTo x0 x1 n2 n3)) W3 := slr_kp1 y9 slr_auto d9_3
  have oz9_3 := (ol_kp1 y9 (ol_ext1 ext_auto (ol_mk o3 p3 (Nat.le_refl _))) d9_3).1
  have d9_6 : ∀ c ∈ W6, c ∉ W4 := dis_own2 o6 p4 om_auto
  have z9_6 : SlRep h9 w6 ((addTo x0 x1 n2 n3)) W6 := slr_kp1 y9 slr_auto d9_6
  have oz9_6 := (ol_kp1 y9 (ol_ext1 ext_auto (ol_mk o6 p6 (Nat.le_refl _))) d9_6).1
  have d9_5 : ∀ c ∈ W5, c ∉ W4 := dis_own2 o5 p4 om_auto
  have z9_5 : SlRep h9 w5 x1.attrs W5 := slr_kp1 y9 slr_auto d9_5
  have oz9_5 := (ol_kp1 y9 (ol_ext1 ext_auto (ol_mk o5 p5 (Nat.le_refl _))) d9_5).1
  have bx9_5 : Bk h9 h5.n [.int .i64 x1.trace, .int .i64 x1.id, .int .i64 x1.start, .int .i64 x1.fin, .bool x1.err, w5] 0 := bk_kp1 y9 bk_auto (nin_lt p4 om_auto)
  (repeat' first|refine vs ?_|(refine br ?_ ?_<;>intro _<;>try(exfalso;first|omega|contradiction))|((with_reducible refine g_idx ?_);((first|refine ix ?_|refine ixi ?_|(refine ixg ?_;intro _ _)|(refine ixgi ?_;intro _ _));first|rintro _ _ _ _ _ ⟨rfl,rfl⟩ _|rintro _ _ _ _ _ ⟨_,rfl,_⟩ _|rintro _ _ _ _ _ ⟨_,_,_,_,rfl,rfl,_,_⟩ _|intro _ _ _ _ _ _ _))|(refine sx ?_;intro _ _)|((with_reducible refine g_awp ?_);simp only [g0,g1,g2]))
  have c10 := mks_cnt32 ((x1).attrs) ((mks (1) x0).2)
  have u10 := mks_upF ((x1).attrs) ((mks (1) x0).2)
  refine aw_call (s_laws_markSpan (x := x1) (F := W5) (n := 0) slr_auto ol_auto om_auto om_auto) ?_
  rintro _ h10 ⟨rfl, y10, q10, -⟩
  have m10 := y10.1
  have d10_3 : ∀ c ∈ W3, c ∉ W5 := dis_own p3 o5 om_auto
  have z10_3 : SlRep h10 w3 ((addTo x0 x1 n2 n3)) W3 := slr_kp1 y10 slr_auto d10_3
  have oz10_3 := (ol_kp1 y10 (ol_ext1 ext_auto (ol_mk oz9_3 z9_3 (Nat.le_refl _))) d10_3).1
  have d10_6 : ∀ c ∈ W6, c ∉ W5 := dis_own2 o6 p5 om_auto
  have z10_6 : SlRep h10 w6 ((addTo x0 x1 n2 n3)) W6 := slr_kp1 y10 slr_auto d10_6
  have oz10_6 := (ol_kp1 y10 (ol_ext1 ext_auto (ol_mk oz9_6 z9_6 (Nat.le_refl _))) d10_6).1
  (repeat' first|refine vs ?_|(refine br ?_ ?_<;>intro _<;>try(exfalso;first|omega|contradiction))|((with_reducible refine g_idx ?_);((first|refine ix ?_|refine ixi ?_|(refine ixg ?_;intro _ _)|(refine ixgi ?_;intro _ _));first|rintro _ _ _ _ _ ⟨rfl,rfl⟩ _|rintro _ _ _ _ _ ⟨_,rfl,_⟩ _|rintro _ _ _ _ _ ⟨_,_,_,_,rfl,rfl,_,_⟩ _|intro _ _ _ _ _ _ _))|(refine sx ?_;intro _ _)|((with_reducible refine g_awp ?_);simp only [g0,g1,g2]))
  refine aw_rcall (s_laws_eqTrailS _ _ _ _ _ _ slr_auto slr_auto) ?_
  (repeat' first|refine vs ?_|(refine br ?_ ?_<;>intro _<;>try(exfalso;first|omega|contradiction))|((with_reducible refine g_idx ?_);((first|refine ix ?_|refine ixi ?_|(refine ixg ?_;intro _ _)|(refine ixgi ?_;intro _ _));first|rintro _ _ _ _ _ ⟨rfl,rfl⟩ _|rintro _ _ _ _ _ ⟨_,rfl,_⟩ _|rintro _ _ _ _ _ ⟨_,_,_,_,rfl,rfl,_,_⟩ _|intro _ _ _ _ _ _ _))|(refine sx ?_;intro _ _)|((with_reducible refine g_awp ?_);simp only [g0,g1,g2]))
  have c11 := mks_cnt32 ((addTo x0 x1 n2 n3)) (1)
  have u11 := mks_upF ((addTo x0 x1 n2 n3)) (1)
  refine aw_call (s_laws_markTrailS _ _ W6 0 _ _ slr_auto ol_auto om_auto om_auto) ?_
  rintro _ h11 ⟨rfl, y11, q11, -⟩
  have m11 := y11.1
  have d11_3 : ∀ c ∈ W3, c ∉ W6 := dis_own p3 o6 om_auto
  have z11_3 : SlRep h11 w3 ((addTo x0 x1 n2 n3)) W3 := slr_kp1 y11 slr_auto d11_3
  have oz11_3 := (ol_kp1 y11 (ol_ext1 ext_auto (ol_mk oz10_3 z10_3 (Nat.le_refl _))) d11_3).1
  (repeat' first|refine vs ?_|(refine br ?_ ?_<;>intro _<;>try(exfalso;first|omega|contradiction))|((with_reducible refine g_idx ?_);((first|refine ix ?_|refine ixi ?_|(refine ixg ?_;intro _ _)|(refine ixgi ?_;intro _ _));first|rintro _ _ _ _ _ ⟨rfl,rfl⟩ _|rintro _ _ _ _ _ ⟨_,rfl,_⟩ _|rintro _ _ _ _ _ ⟨_,_,_,_,rfl,rfl,_,_⟩ _|intro _ _ _ _ _ _ _))|(refine sx ?_;intro _ _)|((with_reducible refine g_awp ?_);simp only [g0,g1,g2]))
  refine aw_rcall (s_laws_heldTrailS ((addTo x0 x1 n2 n3)) _ _ 1 _ slr_auto om_auto om_auto) ?_
  (repeat' first|refine vs ?_|(refine br ?_ ?_<;>intro _<;>try(exfalso;first|omega|contradiction))|((with_reducible refine g_idx ?_);((first|refine ix ?_|refine ixi ?_|(refine ixg ?_;intro _ _)|(refine ixgi ?_;intro _ _));first|rintro _ _ _ _ _ ⟨rfl,rfl⟩ _|rintro _ _ _ _ _ ⟨_,rfl,_⟩ _|rintro _ _ _ _ _ ⟨_,_,_,_,rfl,rfl,_,_⟩ _|intro _ _ _ _ _ _ _))|(refine sx ?_;intro _ _)|((with_reducible refine g_awp ?_);simp only [g0,g1,g2]))
  refine aw_call (copy_r s_laws_toTrailS slr_auto om_auto) ?_
  rintro w12 h12 ⟨e12, W12, p12, o12⟩
  have m12 := e12.1; (try simp only [push_n, upd_n] at m12)
  (repeat' first|refine vs ?_|(refine br ?_ ?_<;>intro _<;>try(exfalso;first|omega|contradiction))|((with_reducible refine g_idx ?_);((first|refine ix ?_|refine ixi ?_|(refine ixg ?_;intro _ _)|(refine ixgi ?_;intro _ _));first|rintro _ _ _ _ _ ⟨rfl,rfl⟩ _|rintro _ _ _ _ _ ⟨_,rfl,_⟩ _|rintro _ _ _ _ _ ⟨_,_,_,_,rfl,rfl,_,_⟩ _|intro _ _ _ _ _ _ _))|(refine sx ?_;intro _ _)|((with_reducible refine g_awp ?_);simp only [g0,g1,g2]))
  refine aw_call (s_laws_toSpan _ om_auto _ _ _ ⟨_, rfl, slr_auto⟩) ?_
  rintro _ h13 ⟨e13, _, W13, rfl, ⟨w13, rfl, p13⟩, o13⟩
  have m13 := e13.1; (try simp only [push_n, upd_n] at m13)
  (repeat' first|refine vs ?_|(refine br ?_ ?_<;>intro _<;>try(exfalso;first|omega|contradiction))|((with_reducible refine g_idx ?_);((first|refine ix ?_|refine ixi ?_|(refine ixg ?_;intro _ _)|(refine ixgi ?_;intro _ _));first|rintro _ _ _ _ _ ⟨rfl,rfl⟩ _|rintro _ _ _ _ _ ⟨_,rfl,_⟩ _|rintro _ _ _ _ _ ⟨_,_,_,_,rfl,rfl,_,_⟩ _|intro _ _ _ _ _ _ _))|(refine sx ?_;intro _ _)|((with_reducible refine g_awp ?_);simp only [g0,g1,g2]))
  refine aw_call (s_impl_AddTo (l := x0) (s := x1) om_auto om_auto slr_auto slr_auto) ?_
  rintro w14 h14 ⟨e14, W14, p14, o14⟩
  have m14 := e14.1; (try simp only [push_n, upd_n] at m14)
  (repeat' first|refine vs ?_|(refine br ?_ ?_<;>intro _<;>try(exfalso;first|omega|contradiction))|((with_reducible refine g_idx ?_);((first|refine ix ?_|refine ixi ?_|(refine ixg ?_;intro _ _)|(refine ixgi ?_;intro _ _));first|rintro _ _ _ _ _ ⟨rfl,rfl⟩ _|rintro _ _ _ _ _ ⟨_,rfl,_⟩ _|rintro _ _ _ _ _ ⟨_,_,_,_,rfl,rfl,_,_⟩ _|intro _ _ _ _ _ _ _))|(refine sx ?_;intro _ _)|((with_reducible refine g_awp ?_);simp only [g0,g1,g2]))
  refine aw_rcall (s_laws_eqTrailS _ _ _ _ _ _ slr_auto slr_auto) ?_
  (repeat' first|refine vs ?_|(refine br ?_ ?_<;>intro _<;>try(exfalso;first|omega|contradiction))|((with_reducible refine g_idx ?_);((first|refine ix ?_|refine ixi ?_|(refine ixg ?_;intro _ _)|(refine ixgi ?_;intro _ _));first|rintro _ _ _ _ _ ⟨rfl,rfl⟩ _|rintro _ _ _ _ _ ⟨_,rfl,_⟩ _|rintro _ _ _ _ _ ⟨_,_,_,_,rfl,rfl,_,_⟩ _|intro _ _ _ _ _ _ _))|(refine sx ?_;intro _ _)|((with_reducible refine g_awp ?_);simp only [g0,g1,g2]))
  refine aw_rcall (s_laws_heldTrailS ((addTo x0 x1 n2 n3)) _ _ 1 _ slr_auto om_auto om_auto) ?_
  (repeat' first|refine vs ?_|(refine br ?_ ?_<;>intro _<;>try(exfalso;first|omega|contradiction))|((with_reducible refine g_idx ?_);((first|refine ix ?_|refine ixi ?_|(refine ixg ?_;intro _ _)|(refine ixgi ?_;intro _ _));first|rintro _ _ _ _ _ ⟨rfl,rfl⟩ _|rintro _ _ _ _ _ ⟨_,rfl,_⟩ _|rintro _ _ _ _ _ ⟨_,_,_,_,rfl,rfl,_,_⟩ _|intro _ _ _ _ _ _ _))|(refine sx ?_;intro _ _)|((with_reducible refine g_awp ?_);simp only [g0,g1,g2]))
  exact pb rfl
end Go.Proofs.Ytpcgbddmdipfbaa
