
/- The law FnExactWorldNew, walked. -/
import Derived.Test.YtideefohbkhhhaaW39
import Derived.Test.YtideefohbkhhhaaLWorld
import Derived.Test.YtideefohbkhhhaaMWorld
set_option linter.unusedSimpArgs false
set_option linter.unusedVariables false
set_option maxHeartbeats 4000000
namespace Go.Proofs.Ytideefohbkhhhaa
open Go Go.Ab
section
/- laws.FnExactWorldNew -/
def p_laws_FnExactWorldNew (x0 : AV) : Prog := .op (.box x0) fun v1 => .op (.ldn 12 v1) fun v2 => .op (.call n_laws_szConf [v2, AV.int .i64 1048576]) fun v3 => .op (.bin 0 .lss v3 (AV.int .i64 0)) fun v4 => .ite v4 (.fin [.val (AV.bool true)]) (.op (.ldn 12 v1) fun v5 => .op (.call n_laws_toConf [v5]) fun v6 => .op (.call n_spec_WorldNew [v6]) fun v7 => .op (.alloc z32_253) fun v8 => .op (.st 32 v8 v7) fun v9 => .op (.ldn 12 v1) fun v10 => .op (.call n_laws_toConf [v10]) fun v11 => .op (.alloc z12_a94) fun v12 => .op (.st 12 v12 v11) fun v13 => .op (.ldn 12 v12) fun v14 => .op (.call n_impl_WorldNew [v14]) fun v15 => .op (.alloc z32_253) fun v16 => .op (.st 32 v16 v15) fun v17 => .op (.ldn 32 v16) fun v18 => .op (.ldn 32 v8) fun v19 => .op (.call n_laws_eqWorld [v18, v19]) fun v20 => .op (.una .not v20) fun v21 => .ite v21 (.fin [.val (AV.bool false)]) (.op (.ldn 12 v12) fun v22 => .op (.ldn 12 v1) fun v23 => .op (.call n_laws_toConf [v23]) fun v24 => .chk (.ldn 12 v12) v22 (.op (.call n_laws_eqConf [v22, v24]) fun v25 => .op (.una .not v25) fun v26 => .ite v26 (.fin [.val (AV.bool false)]) (.op (.ldn 12 v12) fun v27 => .op (.call n_laws_markConf [v27, AV.int .i64 1]) fun v28 => .op (.bin 0 .lss v28 (AV.int .i64 0)) fun v29 => .gop v29 false (.ldn 32 v16) fun v30 => .gop v29 false (.ldn 32 v8) fun v31 => .gop v29 false (.call n_laws_eqWorld [v30, v31]) fun v32 => .gop v29 false (.una .not v32) fun v33 => .op (.pick v29 (AV.bool true) v33) fun v34 => .ite v34 (.fin [.val (AV.bool false)]) (.op (.ldn 32 v16) fun v35 => .op (.call n_laws_markWorld [v35, AV.int .i64 1]) fun v36 => .op (.ldn 32 v16) fun v37 => .op (.call n_laws_heldWorld [v37, AV.int .i64 1]) fun v38 => .op (.bin 0 .lss v38 (AV.int .i64 0)) fun v39 => .ite v39 (.fin [.val (AV.bool false)]) (.op (.bin 0 .neq v38 v36) fun v40 => .ite v40 (.fin [.val (AV.bool false)]) (.op (.ldn 12 v1) fun v41 => .op (.call n_laws_toConf [v41]) fun v42 => .op (.call n_impl_WorldNew [v42]) fun v43 => .op (.alloc z32_253) fun v44 => .op (.st 32 v44 v43) fun v45 => .op (.ldn 32 v44) fun v46 => .op (.ldn 32 v8) fun v47 => .op (.call n_laws_eqWorld [v46, v47]) fun v48 => .op (.una .not v48) fun v49 => .ite v49 (.fin [.val (AV.bool false)]) (.op (.ldn 32 v16) fun v50 => .op (.call n_laws_heldWorld [v50, AV.int .i64 1]) fun v51 => .op (.bin 0 .lss v51 (AV.int .i64 0)) fun v52 => .ite v52 (.fin [.val (AV.bool false)]) (.op (.bin 0 .neq v51 v36) fun v53 => .ite v53 (.fin [.val (AV.bool false)]) (.fin [.val (AV.bool true)]))))))))))
theorem c_laws_FnExactWorldNew (x0 : AV) : CC Try.prog n_laws_FnExactWorldNew [x0] (p_laws_FnExactWorldNew x0) := cc Try.func5 [] (fun r => if r = 10 then [(0, []), (1, []), (2, [0]), (3, []), (4, [])] else []) (by kernel_rfl)
end
theorem worldNew_sz (c : Conf) : Sz.sz (worldNew c) ≤ Sz.sz c + 64 := by
  by_cases h : confOk c
  · rw [worldNew_t h]
    have hs : c.stripes ≤ 3 := h.1.2
    have e1 : ∀ n, szs (List.replicate n newSt) = 0 := fun n => by
      induction n with
      | zero => rfl
      | succ n ih => rw [List.replicate_succ]; simp only [szs, ih]; rfl
    have e2 : ∀ n, szs (List.replicate n noTask) = 0 := fun n => by
      induction n with
      | zero => rfl
      | succ n ih => rw [List.replicate_succ]; simp only [szs, ih]; rfl
    have e3 : ∀ n, szs (List.replicate n ([] : List Ab.Timer)) = 0 := fun n => by
      induction n with
      | zero => rfl
      | succ n ih => rw [List.replicate_succ]; simp only [szs, ih]; rfl
    show Sz.sz c + ((List.replicate c.stripes.toNat newSt).length + szs (List.replicate c.stripes.toNat newSt)) + (0 + 0) + (((List.replicate 8 ([] : List Ab.Timer)).length + szs (List.replicate 8 ([] : List Ab.Timer))) + ((List.replicate 8 ([] : List Ab.Timer)).length + szs (List.replicate 8 ([] : List Ab.Timer))) + (0 + 0)) + (0 + 0) + (0 + 0) + (0 + 0) + ((List.replicate 5 noTask).length + szs (List.replicate 5 noTask)) + (0 + 0) ≤ Sz.sz c + 64
    rw [e1, e2, e3, List.length_replicate, List.length_replicate, List.length_replicate]
    omega
  · rw [worldNew_f h]
    have : Sz.sz noWorld = 0 := by decide
    omega
theorem law_FnExactWorldNew {h : AH} {cs0 : List AV} {x0 : Conf} {F0 : List Nat} (r0 : Cel.rep h x0 cs0 F0) (k0 : Cel.ok x0) : RCalls Try.prog n_laws_FnExactWorldNew [.agg cs0] h (.bool true) := by
  obtain ⟨u0, rfl, q0⟩ := r0
  obtain ⟨_, _, _, _, _, _, _, okr⟩ := id k0
  have hsz : Sz.sz x0 = Sz.sz x0.rule := rfl
  refine reader (c_laws_FnExactWorldNew _) (by simp only [old]) ?_
  unfold p_laws_FnExactWorldNew
  (repeat' first|refine vs ?_|(refine br ?_ ?_<;>intro _<;>try(exfalso;first|omega|contradiction))|((with_reducible refine g_callf n_laws_szConf ?_);(refine aw_sz (s_laws_szConf _ (by assumption) _ _ _ _ ⟨_, rfl, slr_auto⟩ om_auto om_auto) (fun _ => ?_) (fun _ => ?_)))|((with_reducible refine g_idx ?_);((first|refine ix ?_|refine ixi ?_|(refine ixg ?_;intro _ _)|(refine ixgi ?_;intro _ _));first|rintro _ _ _ _ _ ⟨rfl,rfl⟩ _|rintro _ _ _ _ _ ⟨_,rfl,_⟩ _|rintro _ _ _ _ _ ⟨_,_,_,_,rfl,rfl,_,_⟩ _|intro _ _ _ _ _ _ _))|(refine sx ?_;intro _ _)|((with_reducible refine g_awp ?_);simp only [g0,g1,g2]))
  all_goals first | exact pb rfl | skip
  have hv := worldNew_sz x0
  obtain ⟨val, hval⟩ : ∃ val, val = worldNew x0 := ⟨_, rfl⟩
  rw [← hval] at hv
  refine aw_call (s_laws_toConf x0 (by omega) _ _ _ ⟨_, rfl, slr_auto⟩) ?_
  rintro _ h1 ⟨e1, _, W1, rfl, ⟨w1, rfl, p1⟩, o1⟩
  have m1 := e1.1; (try simp only [push_n, upd_n] at m1)
  (repeat' first|refine vs ?_|(refine br ?_ ?_<;>intro _<;>try(exfalso;first|omega|contradiction))|((with_reducible refine g_idx ?_);((first|refine ix ?_|refine ixi ?_|(refine ixg ?_;intro _ _)|(refine ixgi ?_;intro _ _));first|rintro _ _ _ _ _ ⟨rfl,rfl⟩ _|rintro _ _ _ _ _ ⟨_,rfl,_⟩ _|rintro _ _ _ _ _ ⟨_,_,_,_,rfl,rfl,_,_⟩ _|intro _ _ _ _ _ _ _))|(refine sx ?_;intro _ _)|((with_reducible refine g_awp ?_);simp only [g0,g1,g2]))
  refine aw_call (s_spec_WorldNew okr (by omega) slr_auto) ?_
  rintro _ h2 ⟨e2, cs2, W2, rfl, p2, o2⟩
  rw [← hval] at p2
  have m2 := e2.1; (try simp only [push_n, upd_n] at m2)
  have l2 : cs2.length = 32 := Cel.len p2
  (repeat' first|refine vs ?_|((with_reducible refine g_stv ?_);refine aw_stv (by assumption) (by rfl) ?_)|((with_reducible refine g_ldv ?_);refine aw_ldv bk_auto (by assumption) (by decide) ?_)|(refine br ?_ ?_<;>intro _<;>try(exfalso;first|omega|contradiction))|((with_reducible refine g_idx ?_);((first|refine ix ?_|refine ixi ?_|(refine ixg ?_;intro _ _)|(refine ixgi ?_;intro _ _));first|rintro _ _ _ _ _ ⟨rfl,rfl⟩ _|rintro _ _ _ _ _ ⟨_,rfl,_⟩ _|rintro _ _ _ _ _ ⟨_,_,_,_,rfl,rfl,_,_⟩ _|intro _ _ _ _ _ _ _))|(refine sx ?_;intro _ _)|((with_reducible refine g_awp ?_);simp only [g0,g1,g2]))
  refine aw_call (s_laws_toConf x0 (by omega) _ _ _ ⟨_, rfl, slr_auto⟩) ?_
  rintro _ h3 ⟨e3, _, W3, rfl, ⟨w3, rfl, p3⟩, o3⟩
  have m3 := e3.1; (try simp only [push_n, upd_n] at m3)
  (repeat' first|refine vs ?_|((with_reducible refine g_stv ?_);refine aw_stv (by assumption) (by rfl) ?_)|((with_reducible refine g_ldv ?_);refine aw_ldv bk_auto (by assumption) (by decide) ?_)|(refine br ?_ ?_<;>intro _<;>try(exfalso;first|omega|contradiction))|((with_reducible refine g_idx ?_);((first|refine ix ?_|refine ixi ?_|(refine ixg ?_;intro _ _)|(refine ixgi ?_;intro _ _));first|rintro _ _ _ _ _ ⟨rfl,rfl⟩ _|rintro _ _ _ _ _ ⟨_,rfl,_⟩ _|rintro _ _ _ _ _ ⟨_,_,_,_,rfl,rfl,_,_⟩ _|intro _ _ _ _ _ _ _))|(refine sx ?_;intro _ _)|((with_reducible refine g_awp ?_);simp only [g0,g1,g2]))
  refine aw_call (s_impl_WorldNew okr (by omega) slr_auto) ?_
  rintro _ h4 ⟨e4, cs4, W4, rfl, p4, o4⟩
  rw [← hval] at p4
  have m4 := e4.1; (try simp only [push_n, upd_n] at m4)
  have l4 : cs4.length = 32 := Cel.len p4
  (repeat' first|refine vs ?_|((with_reducible refine g_stv ?_);refine aw_stv (by assumption) (by rfl) ?_)|((with_reducible refine g_ldv ?_);refine aw_ldv bk_auto (by assumption) (by decide) ?_)|(refine br ?_ ?_<;>intro _<;>try(exfalso;first|omega|contradiction))|((with_reducible refine g_idx ?_);((first|refine ix ?_|refine ixi ?_|(refine ixg ?_;intro _ _)|(refine ixgi ?_;intro _ _));first|rintro _ _ _ _ _ ⟨rfl,rfl⟩ _|rintro _ _ _ _ _ ⟨_,rfl,_⟩ _|rintro _ _ _ _ _ ⟨_,_,_,_,rfl,rfl,_,_⟩ _|intro _ _ _ _ _ _ _))|(refine sx ?_;intro _ _)|((with_reducible refine g_awp ?_);simp only [g0,g1,g2]))
  refine aw_rcall (s_laws_eqWorld _ _ _ _ _ _ (rep_ext p4 ext_auto) (rep_ext p2 ext_auto)) ?_
  (repeat' first|refine vs ?_|((with_reducible refine g_stv ?_);refine aw_stv (by assumption) (by rfl) ?_)|((with_reducible refine g_ldv ?_);refine aw_ldv bk_auto (by assumption) (by decide) ?_)|(refine br ?_ ?_<;>intro _<;>try(exfalso;first|omega|contradiction))|((with_reducible refine g_idx ?_);((first|refine ix ?_|refine ixi ?_|(refine ixg ?_;intro _ _)|(refine ixgi ?_;intro _ _));first|rintro _ _ _ _ _ ⟨rfl,rfl⟩ _|rintro _ _ _ _ _ ⟨_,rfl,_⟩ _|rintro _ _ _ _ _ ⟨_,_,_,_,rfl,rfl,_,_⟩ _|intro _ _ _ _ _ _ _))|(refine sx ?_;intro _ _)|((with_reducible refine g_awp ?_);simp only [g0,g1,g2]))
  refine aw_call (s_laws_toConf x0 (by omega) _ _ _ ⟨_, rfl, slr_auto⟩) ?_
  rintro _ h5 ⟨e5, _, W5, rfl, ⟨w5, rfl, p5⟩, o5⟩
  have m5 := e5.1; (try simp only [push_n, upd_n] at m5)
  (repeat' first|refine vs ?_|((with_reducible refine g_stv ?_);refine aw_stv (by assumption) (by rfl) ?_)|((with_reducible refine g_ldv ?_);refine aw_ldv bk_auto (by assumption) (by decide) ?_)|(refine br ?_ ?_<;>intro _<;>try(exfalso;first|omega|contradiction))|((with_reducible refine g_callf n_laws_eqConf ?_);refine aw_rcall (s_laws_eqConf _ _ _ _ _ _ ⟨_, rfl, slr_auto⟩ ⟨_, rfl, slr_auto⟩) ?_)|((with_reducible refine g_idx ?_);((first|refine ix ?_|refine ixi ?_|(refine ixg ?_;intro _ _)|(refine ixgi ?_;intro _ _));first|rintro _ _ _ _ _ ⟨rfl,rfl⟩ _|rintro _ _ _ _ _ ⟨_,rfl,_⟩ _|rintro _ _ _ _ _ ⟨_,_,_,_,rfl,rfl,_,_⟩ _|intro _ _ _ _ _ _ _))|(refine sx ?_;intro _ _)|((with_reducible refine g_awp ?_);simp only [g0,g1,g2]))
  have c6 := mks_cnt32 x0.rule.l (1)
  have u6 := mks_upF x0.rule.l (1)
  have hsz2 : Sz.sz x0.rule = x0.rule.key.size + x0.rule.text.size + (x0.rule.l.length + szs x0.rule.l) := Pol.sz_eq _
  refine aw_call (s_laws_markConf (x := x0) (F := W3) (n := 0) slr_auto ol_auto om_auto om_auto) ?_
  rintro _ h6 ⟨rfl, y6, q6, -⟩
  have m6 := y6.1
  have d6_2 : ∀ c ∈ W2, c ∉ W3 := fun c hc hc' => by have := Cel.lt p2 c hc; have := (o3.2 c hc').1; simp only [push_n] at this; omega
  have z6_2 : Cel.rep h6 val cs2 W2 := rep_kp y6 (rep_ext p2 ext_auto) d6_2
  have bx6_2 : Bk h6 h2.n cs2 0 := bk_kp1 y6 bk_auto (nin_own o3 om_auto)
  have d6_4 : ∀ c ∈ W4, c ∉ W3 := fun c hc hc' => by have := (o4.2 c hc).1; have := p3.lt c hc'; simp only [push_n] at *; omega
  have z6_4 : Cel.rep h6 val cs4 W4 := rep_kp y6 (rep_ext p4 ext_auto) d6_4
  have oz6_4 : Own 0 h6 W4 := (ol_kp1 y6 (ol_ext1 ext_auto ⟨o4, Cel.lt p4⟩) d6_4).1.mono (Nat.zero_le _) fun _ _ => rfl
  have bx6_4 : Bk h6 h4.n cs4 0 := bk_kp1 y6 bk_auto (nin_lt p3 om_auto)
  (repeat' first|refine vs ?_|((with_reducible refine g_stv ?_);refine aw_stv (by assumption) (by rfl) ?_)|((with_reducible refine g_ldv ?_);refine aw_ldv bk_auto (by assumption) (by decide) ?_)|(refine br ?_ ?_<;>intro _<;>try(exfalso;first|omega|contradiction))|((with_reducible refine g_idx ?_);((first|refine ix ?_|refine ixi ?_|(refine ixg ?_;intro _ _)|(refine ixgi ?_;intro _ _));first|rintro _ _ _ _ _ ⟨rfl,rfl⟩ _|rintro _ _ _ _ _ ⟨_,rfl,_⟩ _|rintro _ _ _ _ _ ⟨_,_,_,_,rfl,rfl,_,_⟩ _|intro _ _ _ _ _ _ _))|(refine sx ?_;intro _ _)|((with_reducible refine g_awp ?_);simp only [g0,g1,g2]))
  refine aw_rcall (s_laws_eqWorld _ _ _ _ _ _ z6_4 z6_2) ?_
  (repeat' first|refine vs ?_|((with_reducible refine g_stv ?_);refine aw_stv (by assumption) (by rfl) ?_)|((with_reducible refine g_ldv ?_);refine aw_ldv bk_auto (by assumption) (by decide) ?_)|(refine br ?_ ?_<;>intro _<;>try(exfalso;first|omega|contradiction))|((with_reducible refine g_idx ?_);((first|refine ix ?_|refine ixi ?_|(refine ixg ?_;intro _ _)|(refine ixgi ?_;intro _ _));first|rintro _ _ _ _ _ ⟨rfl,rfl⟩ _|rintro _ _ _ _ _ ⟨_,rfl,_⟩ _|rintro _ _ _ _ _ ⟨_,_,_,_,rfl,rfl,_,_⟩ _|intro _ _ _ _ _ _ _))|(refine sx ?_;intro _ _)|((with_reducible refine g_awp ?_);simp only [g0,g1,g2]))
  have c7 := mkWorldN_b 1 val
  have u7 := mkWorldN_up 1 val
  refine aw_call (s_laws_markWorld (n := 0) z6_4 oz6_4 om_auto (by omega)) ?_
  rintro _ h7 ⟨rfl, y7, q7, -⟩
  clear oz6_4
  have m7 := y7.1
  have d7_2 : ∀ c ∈ W2, c ∉ W4 := fun c hc hc' => by have := Cel.lt p2 c hc; have := (o4.2 c hc').1; simp only [push_n] at *; omega
  have z7_2 : Cel.rep h7 val cs2 W2 := rep_kp y7 z6_2 d7_2
  have bx7_2 : Bk h7 h2.n cs2 0 := bk_kp1 y7 bx6_2 (nin_own o4 om_auto)
  have bx7_4 : Bk h7 h4.n cs4 0 := bk_kp1 y7 bx6_4 (fun hm => by have := Cel.lt p4 _ hm; omega)
  (repeat' first|refine vs ?_|((with_reducible refine g_stv ?_);refine aw_stv (by assumption) (by rfl) ?_)|((with_reducible refine g_ldv ?_);refine aw_ldv bk_auto (by assumption) (by decide) ?_)|(refine br ?_ ?_<;>intro _<;>try(exfalso;first|omega|contradiction))|((with_reducible refine g_idx ?_);((first|refine ix ?_|refine ixi ?_|(refine ixg ?_;intro _ _)|(refine ixgi ?_;intro _ _));first|rintro _ _ _ _ _ ⟨rfl,rfl⟩ _|rintro _ _ _ _ _ ⟨_,rfl,_⟩ _|rintro _ _ _ _ _ ⟨_,_,_,_,rfl,rfl,_,_⟩ _|intro _ _ _ _ _ _ _))|(refine sx ?_;intro _ _)|((with_reducible refine g_awp ?_);simp only [g0,g1,g2]))
  refine aw_rcall (s_laws_heldWorld (x := val) (m := 1) q7 om_auto (by omega)) ?_
  (repeat' first|refine vs ?_|((with_reducible refine g_stv ?_);refine aw_stv (by assumption) (by rfl) ?_)|((with_reducible refine g_ldv ?_);refine aw_ldv bk_auto (by assumption) (by decide) ?_)|(refine br ?_ ?_<;>intro _<;>try(exfalso;first|omega|contradiction))|((with_reducible refine g_idx ?_);((first|refine ix ?_|refine ixi ?_|(refine ixg ?_;intro _ _)|(refine ixgi ?_;intro _ _));first|rintro _ _ _ _ _ ⟨rfl,rfl⟩ _|rintro _ _ _ _ _ ⟨_,rfl,_⟩ _|rintro _ _ _ _ _ ⟨_,_,_,_,rfl,rfl,_,_⟩ _|intro _ _ _ _ _ _ _))|(refine sx ?_;intro _ _)|((with_reducible refine g_awp ?_);simp only [g0,g1,g2]))
  refine aw_call (s_laws_toConf x0 (by omega) _ _ _ ⟨_, rfl, slr_auto⟩) ?_
  rintro _ h8 ⟨e8, _, W8, rfl, ⟨w8, rfl, p8⟩, o8⟩
  have m8 := e8.1; (try simp only [push_n, upd_n] at m8)
  (repeat' first|refine vs ?_|((with_reducible refine g_stv ?_);refine aw_stv (by assumption) (by rfl) ?_)|((with_reducible refine g_ldv ?_);refine aw_ldv bk_auto (by assumption) (by decide) ?_)|(refine br ?_ ?_<;>intro _<;>try(exfalso;first|omega|contradiction))|((with_reducible refine g_idx ?_);((first|refine ix ?_|refine ixi ?_|(refine ixg ?_;intro _ _)|(refine ixgi ?_;intro _ _));first|rintro _ _ _ _ _ ⟨rfl,rfl⟩ _|rintro _ _ _ _ _ ⟨_,rfl,_⟩ _|rintro _ _ _ _ _ ⟨_,_,_,_,rfl,rfl,_,_⟩ _|intro _ _ _ _ _ _ _))|(refine sx ?_;intro _ _)|((with_reducible refine g_awp ?_);simp only [g0,g1,g2]))
  refine aw_call (s_impl_WorldNew okr (by omega) slr_auto) ?_
  rintro _ h9 ⟨e9, cs9, W9, rfl, p9, o9⟩
  rw [← hval] at p9
  have m9 := e9.1; (try simp only [push_n, upd_n] at m9)
  have l9 : cs9.length = 32 := Cel.len p9
  (repeat' first|refine vs ?_|((with_reducible refine g_stv ?_);refine aw_stv (by assumption) (by rfl) ?_)|((with_reducible refine g_ldv ?_);refine aw_ldv bk_auto (by assumption) (by decide) ?_)|(refine br ?_ ?_<;>intro _<;>try(exfalso;first|omega|contradiction))|((with_reducible refine g_idx ?_);((first|refine ix ?_|refine ixi ?_|(refine ixg ?_;intro _ _)|(refine ixgi ?_;intro _ _));first|rintro _ _ _ _ _ ⟨rfl,rfl⟩ _|rintro _ _ _ _ _ ⟨_,rfl,_⟩ _|rintro _ _ _ _ _ ⟨_,_,_,_,rfl,rfl,_,_⟩ _|intro _ _ _ _ _ _ _))|(refine sx ?_;intro _ _)|((with_reducible refine g_awp ?_);simp only [g0,g1,g2]))
  refine aw_rcall (s_laws_eqWorld _ _ _ _ _ _ (rep_ext p9 ext_auto) (rep_ext z7_2 ext_auto)) ?_
  (repeat' first|refine vs ?_|((with_reducible refine g_stv ?_);refine aw_stv (by assumption) (by rfl) ?_)|((with_reducible refine g_ldv ?_);refine aw_ldv bk_auto (by assumption) (by decide) ?_)|(refine br ?_ ?_<;>intro _<;>try(exfalso;first|omega|contradiction))|((with_reducible refine g_idx ?_);((first|refine ix ?_|refine ixi ?_|(refine ixg ?_;intro _ _)|(refine ixgi ?_;intro _ _));first|rintro _ _ _ _ _ ⟨rfl,rfl⟩ _|rintro _ _ _ _ _ ⟨_,rfl,_⟩ _|rintro _ _ _ _ _ ⟨_,_,_,_,rfl,rfl,_,_⟩ _|intro _ _ _ _ _ _ _))|(refine sx ?_;intro _ _)|((with_reducible refine g_awp ?_);simp only [g0,g1,g2]))
  refine aw_rcall (s_laws_heldWorld (x := val) (m := 1) (rep_ext q7 ext_auto) om_auto (by omega)) ?_
  (repeat' first|refine vs ?_|((with_reducible refine g_stv ?_);refine aw_stv (by assumption) (by rfl) ?_)|((with_reducible refine g_ldv ?_);refine aw_ldv bk_auto (by assumption) (by decide) ?_)|(refine br ?_ ?_<;>intro _<;>try(exfalso;first|omega|contradiction))|((with_reducible refine g_idx ?_);((first|refine ix ?_|refine ixi ?_|(refine ixg ?_;intro _ _)|(refine ixgi ?_;intro _ _));first|rintro _ _ _ _ _ ⟨rfl,rfl⟩ _|rintro _ _ _ _ _ ⟨_,rfl,_⟩ _|rintro _ _ _ _ _ ⟨_,_,_,_,rfl,rfl,_,_⟩ _|intro _ _ _ _ _ _ _))|(refine sx ?_;intro _ _)|((with_reducible refine g_awp ?_);simp only [g0,g1,g2]))
  exact pb rfl
end Go.Proofs.Ytideefohbkhhhaa
