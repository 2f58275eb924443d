import Derived.Test.YtjnekdbdmoibgaaGreatCW73
import Derived.Test.YtjnekdbdmoibgaaGreatCLWorld
import Derived.Test.YtjnekdbdmoibgaaGreatCMWorld
/- The law FnExactBegin, walked. Written by mkxw.py. -/
set_option linter.unusedSimpArgs false
set_option linter.unusedVariables false
set_option maxHeartbeats 4000000
namespace Go.Proofs.YtjnekdbdmoibgaaGreat
open Go Go.Ab
section
/- laws.FnExactBegin -/
abbrev q_laws_FnExactBegin_1 (v10 : AV) (v60 : AV) (v57 : AV) (v9 : AV) (v20 : AV) (v48 : AV) : Prog := .op (.ldn 32 v10) fun v61 => .op (.call n_laws_eqWorld [v60, v61]) fun v62 => .op (.una .not v62) fun v63 => .gop v63 false (.mv v57) fun v64 => .gop v63 false (.mv v9) fun v65 => .gop v63 false (.bin 2 .neq v64 v65) fun v66 => .op (.pick v63 (AV.bool true) v66) fun v67 => .ite v67 (.fin [.val (AV.bool false)]) (.op (.ldn 32 v20) fun v68 => .op (.call n_laws_heldWorld [v68, AV.int .i64 1]) fun v69 => .op (.bin 0 .lss v69 (AV.int .i64 0)) fun v70 => .ite v70 (.fin [.val (AV.bool false)]) (.op (.bin 0 .neq v69 v48) fun v71 => .ite v71 (.fin [.val (AV.bool false)]) (.fin [.val (AV.bool true)])))
abbrev q_laws_FnExactBegin_2 (v37 : AV) (v40 : AV) (v19 : AV) (v9 : AV) (v20 : AV) (v1 : AV) (x1 : AV) (v10 : AV) : Prog := .gop v37 false (.una .not v40) fun v41 => .op (.pick v37 (AV.bool true) v41) fun v42 => .gop v42 false (.mv v19) fun v43 => .gop v42 false (.mv v9) fun v44 => .gop v42 false (.bin 2 .neq v43 v44) fun v45 => .op (.pick v42 (AV.bool true) v45) fun v46 => .ite v46 (.fin [.val (AV.bool false)]) (.op (.ldn 32 v20) fun v47 => .op (.call n_laws_markWorld [v47, AV.int .i64 1]) fun v48 => .op (.ldn 32 v20) fun v49 => .op (.call n_laws_heldWorld [v49, AV.int .i64 1]) fun v50 => .op (.bin 0 .lss v50 (AV.int .i64 0)) fun v51 => .ite v51 (.fin [.val (AV.bool false)]) (.op (.bin 0 .neq v50 v48) fun v52 => .ite v52 (.fin [.val (AV.bool false)]) (.op (.ldn 32 v1) fun v53 => .op (.call n_laws_toWorld [v53]) fun v54 => .op (.call n_impl_Begin [v54, x1]) fun v55 => .op (.ext v55 0) fun v56 => .op (.ext v55 1) fun v57 => .op (.alloc z32_253) fun v58 => .op (.st 32 v58 v56) fun v59 => .op (.ldn 32 v58) fun v60 => q_laws_FnExactBegin_1 v10 v60 v57 v9 v20 v48)))
abbrev q_laws_FnExactBegin_3 (v20 : AV) (v18 : AV) (v10 : AV) (v19 : AV) (v9 : AV) (v14 : AV) (v1 : AV) (x1 : AV) : Prog := .op (.st 32 v20 v18) fun v21 => .op (.ldn 32 v20) fun v22 => .op (.ldn 32 v10) fun v23 => .op (.call n_laws_eqWorld [v22, v23]) fun v24 => .op (.una .not v24) fun v25 => .gop v25 false (.mv v19) fun v26 => .gop v25 false (.mv v9) fun v27 => .gop v25 false (.bin 2 .neq v26 v27) fun v28 => .op (.pick v25 (AV.bool true) v28) fun v29 => .ite v29 (.fin [.val (AV.bool false)]) (.op (.ldn 32 v14) fun v30 => .op (.ldn 32 v1) fun v31 => .op (.call n_laws_toWorld [v31]) fun v32 => .chk (.ldn 32 v14) v30 (.op (.call n_laws_eqWorld [v30, v32]) fun v33 => .op (.una .not v33) fun v34 => .ite v34 (.fin [.val (AV.bool false)]) (.op (.ldn 32 v14) fun v35 => .op (.call n_laws_markWorld [v35, AV.int .i64 1]) fun v36 => .op (.bin 0 .lss v36 (AV.int .i64 0)) fun v37 => .gop v37 false (.ldn 32 v20) fun v38 => .gop v37 false (.ldn 32 v10) fun v39 => .gop v37 false (.call n_laws_eqWorld [v38, v39]) fun v40 => q_laws_FnExactBegin_2 v37 v40 v19 v9 v20 v1 x1 v10)))
def p_laws_FnExactBegin (x0 x1 : AV) : Prog := .op (.box x0) fun v1 => .op (.ldn 32 v1) fun v2 => .op (.call n_laws_szWorld [v2, AV.int .i64 1048576]) fun v3 => .op (.bin 0 .lss v3 (AV.int .i64 0)) fun v4 => .ite v4 (.fin [.val (AV.bool true)]) (.op (.ldn 32 v1) fun v5 => .op (.call n_laws_toWorld [v5]) fun v6 => .op (.call n_spec_Begin [v6, x1]) fun v7 => .op (.ext v7 0) fun v8 => .op (.ext v7 1) fun v9 => .op (.alloc z32_253) fun v10 => .op (.st 32 v10 v8) fun v11 => .op (.ldn 32 v1) fun v12 => .op (.call n_laws_toWorld [v12]) fun v13 => .op (.alloc z32_253) fun v14 => .op (.st 32 v14 v13) fun v15 => .op (.ldn 32 v14) fun v16 => .op (.call n_impl_Begin [v16, x1]) fun v17 => .op (.ext v17 0) fun v18 => .op (.ext v17 1) fun v19 => .op (.alloc z32_253) fun v20 => q_laws_FnExactBegin_3 v20 v18 v10 v19 v9 v14 v1 x1)
theorem c_laws_FnExactBegin (x0 x1 : AV) : CC Tryz.prog n_laws_FnExactBegin [x0, x1] (p_laws_FnExactBegin x0 x1) := cc Tryz.func8 [] (fun r => if r = 10 then [(0, []), (1, []), (2, [0]), (3, []), (4, [])] else []) (by kernel_rfl)
end
theorem law_FnExactBegin {h : AH} {cs0 : List AV} {x0 : Wld} {F0 : List Nat} (r0 : Cel.rep h x0 cs0 F0) (k0 : Cel.ok x0) {n1 : Int} (k1 : rng n1) : RCalls Tryz.prog n_laws_FnExactBegin [.agg cs0, .int .i64 n1] h (.bool true) := by
  have l0 : cs0.length = 32 := Cel.len r0
  refine reader (c_laws_FnExactBegin _ _) (by simp only [old]) ?_
  unfold p_laws_FnExactBegin
  (repeat' first|refine vs ?_|((with_reducible refine g_stv ?_);refine aw_stv (by assumption) (by rfl) ?_)|((with_reducible refine g_ldv ?_);refine aw_ldv bk_auto (by assumption) (by decide) ?_)|((with_reducible refine g_ckv ?_);refine aw_ckv bk_auto (by assumption) (by decide) ?_)|(refine br ?_ ?_<;>intro _<;>try(exfalso;first|omega|contradiction))|((with_reducible refine g_callf n_laws_szWorld ?_);(refine aw_sz (s_laws_szWorld _ (by assumption) _ _ _ _ (rep_ext r0 ext_auto) om_auto om_auto) (fun _ => ?_) (fun _ => ?_)))|((with_reducible refine g_idx ?_);((first|refine ix ?_|refine ixi ?_|(refine ixg ?_;intro _ _)|(refine ixgi ?_;intro _ _));first|rintro _ _ _ _ _ ⟨rfl,rfl⟩ _|rintro _ _ _ _ _ ⟨_,rfl,_⟩ _|rintro _ _ _ _ _ ⟨_,_,_,_,rfl,rfl,_,_⟩ _|intro _ _ _ _ _ _ _))|(refine sx ?_;intro _ _)|((with_reducible refine g_awp ?_);simp only [g0,g1,g2]))
  all_goals first | exact pb rfl | skip
  have hv := beginP_sz x0 n1
  obtain ⟨val, hval⟩ : ∃ val, val = (beginP x0 n1).1 := ⟨_, rfl⟩
  obtain ⟨bl, hbl⟩ : ∃ bl, bl = (beginP x0 n1).2 := ⟨_, rfl⟩
  rw [← hval] at hv
  refine aw_call (s_laws_toWorld x0 (by omega) _ _ _ (rep_ext r0 ext_auto)) ?_
  rintro _ h1 ⟨e1, cs1, W1, rfl, p1, o1⟩
  have m1 := e1.1; (try simp only [push_n, upd_n] at m1)
  have l1 : cs1.length = 32 := Cel.len p1
  (repeat' first|refine vs ?_|((with_reducible refine g_stv ?_);refine aw_stv (by assumption) (by rfl) ?_)|((with_reducible refine g_ldv ?_);refine aw_ldv bk_auto (by assumption) (by decide) ?_)|((with_reducible refine g_ckv ?_);refine aw_ckv bk_auto (by assumption) (by decide) ?_)|(refine br ?_ ?_<;>intro _<;>try(exfalso;first|omega|contradiction))|((with_reducible refine g_idx ?_);((first|refine ix ?_|refine ixi ?_|(refine ixg ?_;intro _ _)|(refine ixgi ?_;intro _ _));first|rintro _ _ _ _ _ ⟨rfl,rfl⟩ _|rintro _ _ _ _ _ ⟨_,rfl,_⟩ _|rintro _ _ _ _ _ ⟨_,_,_,_,rfl,rfl,_,_⟩ _|intro _ _ _ _ _ _ _))|(refine sx ?_;intro _ _)|((with_reducible refine g_awp ?_);simp only [g0,g1,g2]))
  refine aw_call (s_spec_Begin k0 (by omega) (p1)) ?_
  rintro _ h2 ⟨e2, cs2, W2, rfl, p2, o2⟩
  rw [← hval] at p2
  simp only [← hbl]
  have m2 := e2.1; (try simp only [push_n, upd_n] at m2)
  have l2 : cs2.length = 32 := Cel.len p2
  (repeat' first|refine vs ?_|((with_reducible refine g_stv ?_);refine aw_stv (by assumption) (by rfl) ?_)|((with_reducible refine g_ldv ?_);refine aw_ldv bk_auto (by assumption) (by decide) ?_)|((with_reducible refine g_ckv ?_);refine aw_ckv bk_auto (by assumption) (by decide) ?_)|(refine br ?_ ?_<;>intro _<;>try(exfalso;first|omega|contradiction))|((with_reducible refine g_idx ?_);((first|refine ix ?_|refine ixi ?_|(refine ixg ?_;intro _ _)|(refine ixgi ?_;intro _ _));first|rintro _ _ _ _ _ ⟨rfl,rfl⟩ _|rintro _ _ _ _ _ ⟨_,rfl,_⟩ _|rintro _ _ _ _ _ ⟨_,_,_,_,rfl,rfl,_,_⟩ _|intro _ _ _ _ _ _ _))|(refine sx ?_;intro _ _)|((with_reducible refine g_awp ?_);simp only [g0,g1,g2]))
  refine aw_call (s_laws_toWorld x0 (by omega) _ _ _ (rep_ext r0 ext_auto)) ?_
  rintro _ h3 ⟨e3, cs3, W3, rfl, p3, o3⟩
  have m3 := e3.1; (try simp only [push_n, upd_n] at m3)
  have l3 : cs3.length = 32 := Cel.len p3
  (repeat' first|refine vs ?_|((with_reducible refine g_stv ?_);refine aw_stv (by assumption) (by rfl) ?_)|((with_reducible refine g_ldv ?_);refine aw_ldv bk_auto (by assumption) (by decide) ?_)|((with_reducible refine g_ckv ?_);refine aw_ckv bk_auto (by assumption) (by decide) ?_)|(refine br ?_ ?_<;>intro _<;>try(exfalso;first|omega|contradiction))|((with_reducible refine g_idx ?_);((first|refine ix ?_|refine ixi ?_|(refine ixg ?_;intro _ _)|(refine ixgi ?_;intro _ _));first|rintro _ _ _ _ _ ⟨rfl,rfl⟩ _|rintro _ _ _ _ _ ⟨_,rfl,_⟩ _|rintro _ _ _ _ _ ⟨_,_,_,_,rfl,rfl,_,_⟩ _|intro _ _ _ _ _ _ _))|(refine sx ?_;intro _ _)|((with_reducible refine g_awp ?_);simp only [g0,g1,g2]))
  refine aw_call (s_impl_Begin k0 (by omega) (rep_ext p3 ext_auto)) ?_
  rintro _ h4 ⟨e4, cs4, W4, rfl, p4, o4⟩
  rw [← hval] at p4
  simp only [← hbl]
  have m4 := e4.1; (try simp only [push_n, upd_n] at m4)
  have l4 : cs4.length = 32 := Cel.len p4
  (repeat' first|refine vs ?_|((with_reducible refine g_stv ?_);refine aw_stv (by assumption) (by rfl) ?_)|((with_reducible refine g_ldv ?_);refine aw_ldv bk_auto (by assumption) (by decide) ?_)|((with_reducible refine g_ckv ?_);refine aw_ckv bk_auto (by assumption) (by decide) ?_)|(refine br ?_ ?_<;>intro _<;>try(exfalso;first|omega|contradiction))|((with_reducible refine g_idx ?_);((first|refine ix ?_|refine ixi ?_|(refine ixg ?_;intro _ _)|(refine ixgi ?_;intro _ _));first|rintro _ _ _ _ _ ⟨rfl,rfl⟩ _|rintro _ _ _ _ _ ⟨_,rfl,_⟩ _|rintro _ _ _ _ _ ⟨_,_,_,_,rfl,rfl,_,_⟩ _|intro _ _ _ _ _ _ _))|(refine sx ?_;intro _ _)|((with_reducible refine g_awp ?_);simp only [g0,g1,g2]))
  refine aw_rcall (s_laws_eqWorld _ _ _ _ _ _ (rep_ext p4 ext_auto) (rep_ext p2 ext_auto)) ?_
  (repeat' first|refine vs ?_|((with_reducible refine g_stv ?_);refine aw_stv (by assumption) (by rfl) ?_)|((with_reducible refine g_ldv ?_);refine aw_ldv bk_auto (by assumption) (by decide) ?_)|((with_reducible refine g_ckv ?_);refine aw_ckv bk_auto (by assumption) (by decide) ?_)|(refine br ?_ ?_<;>intro _<;>try(exfalso;first|omega|contradiction))|((with_reducible refine g_idx ?_);((first|refine ix ?_|refine ixi ?_|(refine ixg ?_;intro _ _)|(refine ixgi ?_;intro _ _));first|rintro _ _ _ _ _ ⟨rfl,rfl⟩ _|rintro _ _ _ _ _ ⟨_,rfl,_⟩ _|rintro _ _ _ _ _ ⟨_,_,_,_,rfl,rfl,_,_⟩ _|intro _ _ _ _ _ _ _))|(refine sx ?_;intro _ _)|((with_reducible refine g_awp ?_);simp only [g0,g1,g2]))
  refine aw_call (s_laws_toWorld x0 (by omega) _ _ _ (rep_ext r0 ext_auto)) ?_
  rintro _ h5 ⟨e5, cs5, W5, rfl, p5, o5⟩
  have m5 := e5.1; (try simp only [push_n, upd_n] at m5)
  have l5 : cs5.length = 32 := Cel.len p5
  refine aw_ckv (b := h3.n) bk_auto l3 (by decide) ?_
  (repeat' first|refine vs ?_|((with_reducible refine g_stv ?_);refine aw_stv (by assumption) (by rfl) ?_)|((with_reducible refine g_ldv ?_);refine aw_ldv bk_auto (by assumption) (by decide) ?_)|((with_reducible refine g_ckv ?_);refine aw_ckv bk_auto (by assumption) (by decide) ?_)|(refine br ?_ ?_<;>intro _<;>try(exfalso;first|omega|contradiction))|((with_reducible refine g_idx ?_);((first|refine ix ?_|refine ixi ?_|(refine ixg ?_;intro _ _)|(refine ixgi ?_;intro _ _));first|rintro _ _ _ _ _ ⟨rfl,rfl⟩ _|rintro _ _ _ _ _ ⟨_,rfl,_⟩ _|rintro _ _ _ _ _ ⟨_,_,_,_,rfl,rfl,_,_⟩ _|intro _ _ _ _ _ _ _))|(refine sx ?_;intro _ _)|((with_reducible refine g_awp ?_);simp only [g0,g1,g2]))
  refine aw_rcall (s_laws_eqWorld _ _ _ _ _ _ (rep_ext p3 ext_auto) (rep_ext p5 ext_auto)) ?_
  (repeat' first|refine vs ?_|((with_reducible refine g_stv ?_);refine aw_stv (by assumption) (by rfl) ?_)|((with_reducible refine g_ldv ?_);refine aw_ldv bk_auto (by assumption) (by decide) ?_)|((with_reducible refine g_ckv ?_);refine aw_ckv bk_auto (by assumption) (by decide) ?_)|(refine br ?_ ?_<;>intro _<;>try(exfalso;first|omega|contradiction))|((with_reducible refine g_idx ?_);((first|refine ix ?_|refine ixi ?_|(refine ixg ?_;intro _ _)|(refine ixgi ?_;intro _ _));first|rintro _ _ _ _ _ ⟨rfl,rfl⟩ _|rintro _ _ _ _ _ ⟨_,rfl,_⟩ _|rintro _ _ _ _ _ ⟨_,_,_,_,rfl,rfl,_,_⟩ _|intro _ _ _ _ _ _ _))|(refine sx ?_;intro _ _)|((with_reducible refine g_awp ?_);simp only [g0,g1,g2]))
  have lt0 := Cel.lt r0
  have lt2 := Cel.lt p2
  have lt3 := Cel.lt p3
  have lt4 := Cel.lt p4
  have c6 := mkWorldN_b 1 x0
  have u6 := mkWorldN_up 1 x0
  refine aw_call (s_laws_markWorld (x := x0) (F := W3) (n := 0) (rep_ext p3 ext_auto) ((ol_ext1 ext_auto ⟨o3, Cel.lt p3⟩).1.mono (Nat.zero_le _) fun _ _ => rfl) om_auto (by omega)) ?_
  rintro _ h6 ⟨rfl, y6, q6, -⟩
  have m6 := y6.1
  have d6_0 : ∀ c ∈ F0, c ∉ W3 := fun c hc hc' => by have := lt0 c hc; have := (o3.2 c hc').1; simp only [push_n] at *; omega
  have z6_0 : Cel.rep h6 x0 cs0 F0 := rep_kp y6 (rep_ext r0 ext_auto) d6_0
  have d6_2 : ∀ c ∈ W2, c ∉ W3 := fun c hc hc' => by have := lt2 c hc; have := (o3.2 c hc').1; simp only [push_n] at *; omega
  have z6_2 : Cel.rep h6 val cs2 W2 := rep_kp y6 (rep_ext p2 ext_auto) d6_2
  have bx6_0 : Bk h6 h.n cs0 0 := bk_kp1 y6 bk_auto (fun hm => by have := (o3.2 _ hm).1; simp only [push_n] at *; omega)
  have bx6_2 : Bk h6 h2.n cs2 0 := bk_kp1 y6 bk_auto (fun hm => by have := (o3.2 _ hm).1; simp only [push_n] at *; omega)
  have d6_4 : ∀ c ∈ W4, c ∉ W3 := fun c hc hc' => by have := (o4.2 c hc).1; have := lt3 c hc'; simp only [push_n] at *; omega
  have z6_4 : Cel.rep h6 val cs4 W4 := rep_kp y6 (rep_ext p4 ext_auto) d6_4
  have oz6_4 : Own 0 h6 W4 := (ol_kp1 y6 (ol_ext1 ext_auto ⟨o4, Cel.lt p4⟩) d6_4).1.mono (Nat.zero_le _) fun _ _ => rfl
  have bx6_4 : Bk h6 h4.n cs4 0 := bk_kp1 y6 bk_auto (fun hm => by have := lt3 _ hm; simp only [push_n] at *; omega)
  (repeat' first|refine vs ?_|((with_reducible refine g_stv ?_);refine aw_stv (by assumption) (by rfl) ?_)|((with_reducible refine g_ldv ?_);refine aw_ldv bk_auto (by assumption) (by decide) ?_)|((with_reducible refine g_ckv ?_);refine aw_ckv bk_auto (by assumption) (by decide) ?_)|(refine br ?_ ?_<;>intro _<;>try(exfalso;first|omega|contradiction))|((with_reducible refine g_idx ?_);((first|refine ix ?_|refine ixi ?_|(refine ixg ?_;intro _ _)|(refine ixgi ?_;intro _ _));first|rintro _ _ _ _ _ ⟨rfl,rfl⟩ _|rintro _ _ _ _ _ ⟨_,rfl,_⟩ _|rintro _ _ _ _ _ ⟨_,_,_,_,rfl,rfl,_,_⟩ _|intro _ _ _ _ _ _ _))|(refine sx ?_;intro _ _)|((with_reducible refine g_awp ?_);simp only [g0,g1,g2]))
  refine aw_rcall (s_laws_eqWorld _ _ _ _ _ _ z6_4 z6_2) ?_
  (repeat' first|refine vs ?_|((with_reducible refine g_stv ?_);refine aw_stv (by assumption) (by rfl) ?_)|((with_reducible refine g_ldv ?_);refine aw_ldv bk_auto (by assumption) (by decide) ?_)|((with_reducible refine g_ckv ?_);refine aw_ckv bk_auto (by assumption) (by decide) ?_)|(refine br ?_ ?_<;>intro _<;>try(exfalso;first|omega|contradiction))|((with_reducible refine g_idx ?_);((first|refine ix ?_|refine ixi ?_|(refine ixg ?_;intro _ _)|(refine ixgi ?_;intro _ _));first|rintro _ _ _ _ _ ⟨rfl,rfl⟩ _|rintro _ _ _ _ _ ⟨_,rfl,_⟩ _|rintro _ _ _ _ _ ⟨_,_,_,_,rfl,rfl,_,_⟩ _|intro _ _ _ _ _ _ _))|(refine sx ?_;intro _ _)|((with_reducible refine g_awp ?_);simp only [g0,g1,g2]))
  have c7 := mkWorldN_b 1 val
  have u7 := mkWorldN_up 1 val
  refine aw_call (s_laws_markWorld (n := 0) z6_4 oz6_4 om_auto (by omega)) ?_
  rintro _ h7 ⟨rfl, y7, q7, -⟩
  clear oz6_4
  have m7 := y7.1
  have d7_0 : ∀ c ∈ F0, c ∉ W4 := fun c hc hc' => by have := lt0 c hc; have := (o4.2 c hc').1; simp only [push_n] at *; omega
  have z7_0 : Cel.rep h7 x0 cs0 F0 := rep_kp y7 z6_0 d7_0
  have d7_2 : ∀ c ∈ W2, c ∉ W4 := fun c hc hc' => by have := lt2 c hc; have := (o4.2 c hc').1; simp only [push_n] at *; omega
  have z7_2 : Cel.rep h7 val cs2 W2 := rep_kp y7 z6_2 d7_2
  have bx7_0 : Bk h7 h.n cs0 0 := bk_kp1 y7 bx6_0 (fun hm => by have := (o4.2 _ hm).1; simp only [push_n] at *; omega)
  have bx7_2 : Bk h7 h2.n cs2 0 := bk_kp1 y7 bx6_2 (fun hm => by have := (o4.2 _ hm).1; simp only [push_n] at *; omega)
  have bx7_4 : Bk h7 h4.n cs4 0 := bk_kp1 y7 bx6_4 (fun hm => by have := lt4 _ hm; omega)
  (repeat' first|refine vs ?_|((with_reducible refine g_stv ?_);refine aw_stv (by assumption) (by rfl) ?_)|((with_reducible refine g_ldv ?_);refine aw_ldv bk_auto (by assumption) (by decide) ?_)|((with_reducible refine g_ckv ?_);refine aw_ckv bk_auto (by assumption) (by decide) ?_)|(refine br ?_ ?_<;>intro _<;>try(exfalso;first|omega|contradiction))|((with_reducible refine g_idx ?_);((first|refine ix ?_|refine ixi ?_|(refine ixg ?_;intro _ _)|(refine ixgi ?_;intro _ _));first|rintro _ _ _ _ _ ⟨rfl,rfl⟩ _|rintro _ _ _ _ _ ⟨_,rfl,_⟩ _|rintro _ _ _ _ _ ⟨_,_,_,_,rfl,rfl,_,_⟩ _|intro _ _ _ _ _ _ _))|(refine sx ?_;intro _ _)|((with_reducible refine g_awp ?_);simp only [g0,g1,g2]))
  refine aw_rcall (s_laws_heldWorld (x := val) (m := 1) q7 om_auto (by omega)) ?_
  (repeat' first|refine vs ?_|((with_reducible refine g_stv ?_);refine aw_stv (by assumption) (by rfl) ?_)|((with_reducible refine g_ldv ?_);refine aw_ldv bk_auto (by assumption) (by decide) ?_)|((with_reducible refine g_ckv ?_);refine aw_ckv bk_auto (by assumption) (by decide) ?_)|(refine br ?_ ?_<;>intro _<;>try(exfalso;first|omega|contradiction))|((with_reducible refine g_idx ?_);((first|refine ix ?_|refine ixi ?_|(refine ixg ?_;intro _ _)|(refine ixgi ?_;intro _ _));first|rintro _ _ _ _ _ ⟨rfl,rfl⟩ _|rintro _ _ _ _ _ ⟨_,rfl,_⟩ _|rintro _ _ _ _ _ ⟨_,_,_,_,rfl,rfl,_,_⟩ _|intro _ _ _ _ _ _ _))|(refine sx ?_;intro _ _)|((with_reducible refine g_awp ?_);simp only [g0,g1,g2]))
  refine aw_call (s_laws_toWorld x0 (by omega) _ _ _ (rep_ext z7_0 ext_auto)) ?_
  rintro _ h8 ⟨e8, cs8, W8, rfl, p8, o8⟩
  have m8 := e8.1; (try simp only [push_n, upd_n] at m8)
  have l8 : cs8.length = 32 := Cel.len p8
  (repeat' first|refine vs ?_|((with_reducible refine g_stv ?_);refine aw_stv (by assumption) (by rfl) ?_)|((with_reducible refine g_ldv ?_);refine aw_ldv bk_auto (by assumption) (by decide) ?_)|((with_reducible refine g_ckv ?_);refine aw_ckv bk_auto (by assumption) (by decide) ?_)|(refine br ?_ ?_<;>intro _<;>try(exfalso;first|omega|contradiction))|((with_reducible refine g_idx ?_);((first|refine ix ?_|refine ixi ?_|(refine ixg ?_;intro _ _)|(refine ixgi ?_;intro _ _));first|rintro _ _ _ _ _ ⟨rfl,rfl⟩ _|rintro _ _ _ _ _ ⟨_,rfl,_⟩ _|rintro _ _ _ _ _ ⟨_,_,_,_,rfl,rfl,_,_⟩ _|intro _ _ _ _ _ _ _))|(refine sx ?_;intro _ _)|((with_reducible refine g_awp ?_);simp only [g0,g1,g2]))
  refine aw_call (s_impl_Begin k0 (by omega) (p8)) ?_
  rintro _ h9 ⟨e9, cs9, W9, rfl, p9, o9⟩
  rw [← hval] at p9
  simp only [← hbl]
  have m9 := e9.1; (try simp only [push_n, upd_n] at m9)
  have l9 : cs9.length = 32 := Cel.len p9
  (repeat' first|refine vs ?_|((with_reducible refine g_stv ?_);refine aw_stv (by assumption) (by rfl) ?_)|((with_reducible refine g_ldv ?_);refine aw_ldv bk_auto (by assumption) (by decide) ?_)|((with_reducible refine g_ckv ?_);refine aw_ckv bk_auto (by assumption) (by decide) ?_)|(refine br ?_ ?_<;>intro _<;>try(exfalso;first|omega|contradiction))|((with_reducible refine g_idx ?_);((first|refine ix ?_|refine ixi ?_|(refine ixg ?_;intro _ _)|(refine ixgi ?_;intro _ _));first|rintro _ _ _ _ _ ⟨rfl,rfl⟩ _|rintro _ _ _ _ _ ⟨_,rfl,_⟩ _|rintro _ _ _ _ _ ⟨_,_,_,_,rfl,rfl,_,_⟩ _|intro _ _ _ _ _ _ _))|(refine sx ?_;intro _ _)|((with_reducible refine g_awp ?_);simp only [g0,g1,g2]))
  refine aw_rcall (s_laws_eqWorld _ _ _ _ _ _ (rep_ext p9 ext_auto) (rep_ext z7_2 ext_auto)) ?_
  (repeat' first|refine vs ?_|((with_reducible refine g_stv ?_);refine aw_stv (by assumption) (by rfl) ?_)|((with_reducible refine g_ldv ?_);refine aw_ldv bk_auto (by assumption) (by decide) ?_)|((with_reducible refine g_ckv ?_);refine aw_ckv bk_auto (by assumption) (by decide) ?_)|(refine br ?_ ?_<;>intro _<;>try(exfalso;first|omega|contradiction))|((with_reducible refine g_idx ?_);((first|refine ix ?_|refine ixi ?_|(refine ixg ?_;intro _ _)|(refine ixgi ?_;intro _ _));first|rintro _ _ _ _ _ ⟨rfl,rfl⟩ _|rintro _ _ _ _ _ ⟨_,rfl,_⟩ _|rintro _ _ _ _ _ ⟨_,_,_,_,rfl,rfl,_,_⟩ _|intro _ _ _ _ _ _ _))|(refine sx ?_;intro _ _)|((with_reducible refine g_awp ?_);simp only [g0,g1,g2]))
  refine aw_rcall (s_laws_heldWorld (x := val) (m := 1) (rep_ext q7 ext_auto) om_auto (by omega)) ?_
  (repeat' first|refine vs ?_|((with_reducible refine g_stv ?_);refine aw_stv (by assumption) (by rfl) ?_)|((with_reducible refine g_ldv ?_);refine aw_ldv bk_auto (by assumption) (by decide) ?_)|((with_reducible refine g_ckv ?_);refine aw_ckv bk_auto (by assumption) (by decide) ?_)|(refine br ?_ ?_<;>intro _<;>try(exfalso;first|omega|contradiction))|((with_reducible refine g_idx ?_);((first|refine ix ?_|refine ixi ?_|(refine ixg ?_;intro _ _)|(refine ixgi ?_;intro _ _));first|rintro _ _ _ _ _ ⟨rfl,rfl⟩ _|rintro _ _ _ _ _ ⟨_,rfl,_⟩ _|rintro _ _ _ _ _ ⟨_,_,_,_,rfl,rfl,_,_⟩ _|intro _ _ _ _ _ _ _))|(refine sx ?_;intro _ _)|((with_reducible refine g_awp ?_);simp only [g0,g1,g2]))
  exact pb rfl
end Go.Proofs.YtjnekdbdmoibgaaGreat
