
/- New worlds. -/
import Derived.Test.YtideefohbkhhhaaW37
import Derived.Test.YtideefohbkhhhaaW38
import Derived.Test.YtideefohbkhhhaaW9
set_option linter.unusedSimpArgs false
set_option linter.unusedVariables false
set_option maxHeartbeats 4000000
namespace Go.Proofs.Ytideefohbkhhhaa
open Go Go.Ab
section
/- impl.WorldNew -/
def p_impl_WorldNew (x0 : AV) : Prog := .op (.box x0) fun v1 => .op (.alloc z32_253) fun v2 => .op (.ldn 12 v1) fun v3 => .op (.call n_impl_ConfOk [v3]) fun v4 => .op (.una .not v4) fun v5 => .ite v5 (.op (.build z32_253 []) fun v6 => .op (.st 32 v2 v6) fun v7 => .fin [.cn 32 v2]) (.op (.ldn 12 v1) fun v8 => .op (.fad 5 v1) fun v9 => .op (.ld1 v9) fun v10 => .op (.fad 6 v1) fun v11 => .op (.ld1 v11) fun v12 => .op (.mksl 12 128 z12_f83 (AV.int .i64 5) (AV.int .i64 5)) fun v13 => .op (.alloc z32_253) fun v14 => .op (.call n_impl_copyConf [v8]) fun v15 => .chk (.ld1 v9) v10 (.chk (.ld1 v11) v12 (.chk (.mksl 12 128 z12_f83 (AV.int .i64 5) (AV.int .i64 5)) v13 (.chk (.alloc z32_253) v14 (.op (.call n_impl_BucketNew [v10, v12]) fun v16 => .chk (.mksl 12 128 z12_f83 (AV.int .i64 5) (AV.int .i64 5)) v13 (.chk (.alloc z32_253) v14 (.op (.call n_impl_WheelNew []) fun v17 => .chk (.mksl 12 128 z12_f83 (AV.int .i64 5) (AV.int .i64 5)) v13 (.chk (.alloc z32_253) v14 (.op (.build z32_253 [(0, 12, v15), (15, 1, AV.int .i64 (-1)), (16, 4, v16), (22, 4, v17), (29, 1, v13), (31, 1, AV.int .i64 1)]) fun v18 => .op (.st 32 v14 v18) fun v19 => .loop [AV.int .i64 0] (fun vs20 => .op (.fad 0 v1) fun v22 => .op (.ld1 v22) fun v23 => .op (.bin 0 .lss (g vs20 0) v23) fun v24 => .ite v24 (.op (.fad 14 v14) fun v25 => .op (.ld1 v25) fun v26 => .op (.build [AV.int .i64 0, AV.nils] [(0, 1, AV.int .i64 (-1))]) fun v27 => .op (.bslice 2 1 [AV.int .i64 0, AV.nils] [(0, 2, v27)]) fun v28 => .op (.app 2 32 v26 v28) fun v29 => .op (.fad 14 v14) fun v30 => .op (.st 1 v30 v29) fun v31 => .op (.bin 0 .add (g vs20 0) (AV.int .i64 1)) fun v32 => .leaf 0 [v32]) (.leaf 2 [g vs20 0])) fun t21 vs20 => tsel t21 1 (.leaf 1 vs20) (tsel t21 2 (.op (.ldn 32 v14) fun v33 => .op (.st 32 v2 v33) fun v34 => .fin [.cn 32 v2]) .bad))))))))))
theorem c_impl_WorldNew (x0 : AV) : CC Try.prog n_impl_WorldNew [x0] (p_impl_WorldNew x0) := cc Try.func16 [1, 2, 3, 4] (fun r => if r = 3 then [(0, []), (2, []), (3, []), (4, []), (5, []), (8, []), (10, []), (1, [3, 5, 8, 10]), (6, [8, 10]), (7, [8, 10]), (9, []), (11, [])] else []) (by kernel_rfl)
/- spec.WorldNew -/
def p_spec_WorldNew (x0 : AV) : Prog := .op (.box x0) fun v1 => .op (.alloc z32_253) fun v2 => .op (.ldn 12 v1) fun v3 => .op (.call n_spec_ConfOk [v3]) fun v4 => .op (.una .not v4) fun v5 => .ite v5 (.op (.build z32_253 []) fun v6 => .op (.st 32 v2 v6) fun v7 => .fin [.cn 32 v2]) (.op (.ldn 12 v1) fun v8 => .op (.call n_spec_l13Copy [v8]) fun v9 => .op (.alloc z12_a94) fun v10 => .op (.st 12 v10 v9) fun v11 => .op (.ldn 12 v10) fun v12 => .op (.fad 5 v1) fun v13 => .op (.ld1 v13) fun v14 => .op (.fad 6 v1) fun v15 => .op (.ld1 v15) fun v16 => .op (.alloc z32_253) fun v17 => .op (.call n_spec_BucketNew [v14, v16]) fun v18 => .chk (.ldn 12 v10) v12 (.chk (.alloc z32_253) v17 (.op (.call n_spec_WheelNew []) fun v19 => .chk (.ldn 12 v10) v12 (.chk (.alloc z32_253) v17 (.op (.build z32_253 [(0, 12, v12), (15, 1, AV.int .i64 (-1)), (16, 4, v18), (22, 4, v19), (31, 1, AV.int .i64 1)]) fun v20 => .op (.st 32 v17 v20) fun v21 => .loop [AV.int .i64 0] (fun vs22 => .op (.fad 0 v1) fun v24 => .op (.ld1 v24) fun v25 => .op (.bin 0 .lss (g vs22 0) v25) fun v26 => .ite v26 (.op (.fad 14 v17) fun v27 => .op (.ld1 v27) fun v28 => .op (.build [AV.int .i64 0, AV.nils] [(0, 1, AV.int .i64 (-1))]) fun v29 => .op (.bslice 2 1 [AV.int .i64 0, AV.nils] [(0, 2, v29)]) fun v30 => .op (.app 2 32 v28 v30) fun v31 => .op (.fad 14 v17) fun v32 => .op (.st 1 v32 v31) fun v33 => .op (.bin 0 .add (g vs22 0) (AV.int .i64 1)) fun v34 => .leaf 0 [v34]) (.leaf 2 [g vs22 0])) fun t23 vs22 => tsel t23 1 (.leaf 1 vs22) (tsel t23 2 (.loop [AV.int .i64 0] (fun vs35 => .op (.bin 0 .lss (g vs35 0) (AV.int .i64 5)) fun v37 => .ite v37 (.op (.fad 29 v17) fun v38 => .op (.ld1 v38) fun v39 => .op (.build z12_f83 []) fun v40 => .op (.bslice 12 1 z12_f83 [(0, 12, v40)]) fun v41 => .op (.app 12 128 v39 v41) fun v42 => .op (.fad 29 v17) fun v43 => .op (.st 1 v43 v42) fun v44 => .op (.bin 0 .add (g vs35 0) (AV.int .i64 1)) fun v45 => .leaf 0 [v45]) (.leaf 4 [g vs35 0])) fun t36 vs35 => tsel t36 1 (.leaf 1 vs35) (tsel t36 4 (.op (.ldn 32 v17) fun v46 => .op (.st 32 v2 v46) fun v47 => .fin [.cn 32 v2]) .bad)) .bad))))))
theorem c_spec_WorldNew (x0 : AV) : CC Try.prog n_spec_WorldNew [x0] (p_spec_WorldNew x0) := cc Try.func14 [1, 2, 4, 5, 6] (fun r => if r = 4 then [(0, []), (1, []), (2, []), (3, []), (4, []), (8, []), (5, [0, 8]), (6, [0, 8]), (7, []), (9, [])] else []) (by kernel_rfl)
end
def newSt : Stripe := ⟨-1, []⟩
def noSpan : Span := ⟨0, 0, 0, 0, false, []⟩
def noTask : Task := ⟨0, 0, noSpan, 0, 0, [], 0⟩
def noWorld : Wld := ⟨⟨0, 0, 0, 0, 0, 0, 0, .mk 0 0 ⟨#[]⟩ ⟨#[]⟩ []⟩, 0, false, [], 0, ⟨0, 0, 0, 0⟩, [], 0, ⟨0, [], [], []⟩, [], [], [], [], [], 0⟩
noncomputable def worldNew (c : Conf) : Wld := if bp (confOk c) = true then ⟨c, 0, false, List.replicate c.stripes.toNat newSt, -1, ⟨c.rate, c.burst, c.burst, 0⟩, [], 0, wheelNew, [], [], [], List.replicate 5 noTask, [], 1⟩ else noWorld
theorem worldNew_t {c : Conf} (h : confOk c) : worldNew c = ⟨c, 0, false, List.replicate c.stripes.toNat newSt, -1, ⟨c.rate, c.burst, c.burst, 0⟩, [], 0, wheelNew, [], [], [], List.replicate 5 noTask, [], 1⟩ := by unfold worldNew; rw [if_pos (bp_t h)]
theorem worldNew_f {c : Conf} (h : ¬ confOk c) : worldNew c = noWorld := by unfold worldNew; rw [if_neg (by rw [bp_f h]; decide)]
theorem tasks5 {h : AH} : SlRep (h.push ⟨(List.replicate 5 [AV.int .i64 0, AV.int .i64 0, AV.int .i64 0, AV.int .i64 0, AV.int .i64 0, AV.int .i64 0, AV.bool false, AV.nils, AV.int .i64 0, AV.int .i64 0, AV.nils, AV.int .i64 0]).flatten, 12, 0⟩) (.sl h.n 0 5) (List.replicate 5 noTask) [h.n] ∧ ∀ n, n ≤ h.n → Own n (h.push ⟨(List.replicate 5 [AV.int .i64 0, AV.int .i64 0, AV.int .i64 0, AV.int .i64 0, AV.int .i64 0, AV.int .i64 0, AV.bool false, AV.nils, AV.int .i64 0, AV.int .i64 0, AV.nils, AV.int .i64 0]).flatten, 12, 0⟩) [h.n] :=
  ⟨slrep_push (n := 5) (by simp) (by decide) (reps_rep (show Cel.rep h noTask [AV.int .i64 0, AV.int .i64 0, AV.int .i64 0, AV.int .i64 0, AV.int .i64 0, AV.int .i64 0, AV.bool false, AV.nils, AV.int .i64 0, AV.int .i64 0, AV.nils, AV.int .i64 0] [] from ⟨.nils, .nils, [], [], rfl, rfl, SlRep.nils, SlRep.nils⟩) 5), fun n hn => own_push hn rfl (by simp) Own.nil⟩
theorem s_impl_WorldNew {h : AH} {c : Conf} {v : AV} {F : List Nat} (ok : Cel.ok c.rule) (hs : Sz.sz c ≤ 67108864) (r : SlRep h v c.rule.l F) : ACalls Try.prog n_impl_WorldNew [.agg (c.cs v)] h (NewX Wld h (worldNew c)) := by
  have hsz : Sz.sz c = Sz.sz c.rule := rfl
  refine c_impl_WorldNew _ ?_
  unfold p_impl_WorldNew
  (repeat' first|refine vs ?_|(refine br ?_ ?_<;>intro _<;>try(exfalso;first|omega|contradiction))|((with_reducible refine g_callf n_impl_ConfOk ?_);(refine aw_rcall_b (s_impl_ConfOk ok slr_auto) ?_ ?_ <;> intro hn <;> first | replace hn := bp_true hn | replace hn := bp_false hn))|((with_reducible refine g_idx ?_);((first|refine ix ?_|refine ixi ?_|(refine ixg ?_;intro _ _)|(refine ixgi ?_;intro _ _));first|rintro _ _ _ _ _ ⟨rfl,rfl⟩ _|rintro _ _ _ _ _ ⟨_,rfl,_⟩ _|rintro _ _ _ _ _ ⟨_,_,_,_,rfl,rfl,_,_⟩ _|intro _ _ _ _ _ _ _))|(refine sx ?_;intro _ _)|((with_reducible refine g_awp ?_);simp only [g0,g1,g2]))
  · refine aw_mksl (n := 5) (by decide) ?_
    obtain ⟨qt, ot⟩ := tasks5 (h := (h.push ⟨c.cs v, 0, 0⟩).push ⟨[AV.int .i64 0, AV.int .i64 0, AV.int .i64 0, AV.int .i64 0, AV.int .i64 0, AV.int .i64 0, AV.int .i64 0, AV.int .i64 0, AV.int .i64 0, AV.str ⟨#[]⟩, AV.str ⟨#[]⟩, AV.nils, AV.int .i64 0, AV.bool false, AV.nils, AV.int .i64 0, AV.int .i64 0, AV.int .i64 0, AV.int .i64 0, AV.int .i64 0, AV.nils, AV.int .i64 0, AV.int .i64 0, AV.nils, AV.nils, AV.nils, AV.nils, AV.nils, AV.nils, AV.nils, AV.nils, AV.int .i64 0], 0, 0⟩)
    have ot := ot (h.n + 1 + 1) (by simp)
    have hsN : (1 : Int) ≤ c.stripes ∧ c.stripes ≤ 3 := hn.1
    (repeat' first|refine vs ?_|((with_reducible refine g_chka ?_);refine w_chka bk_auto ?_)|((with_reducible refine g_chkm ?_);refine w_chkm (n := 5) bk_auto (by decide) ?_)|(refine br ?_ ?_<;>intro _<;>try(exfalso;first|omega|contradiction))|((with_reducible refine g_callf n_impl_ConfOk ?_);(refine aw_rcall_b (s_impl_ConfOk ok slr_auto) ?_ ?_ <;> intro hn <;> first | replace hn := bp_true hn | replace hn := bp_false hn))|((with_reducible refine g_callf n_impl_copyConf ?_);(refine aw_call (s_impl_copyConf c (by omega) _ _ _ ⟨_, rfl, slr_auto⟩) ?_; rintro _ h1 ⟨e1, _, G0, rfl, ⟨w0, rfl, q0⟩, o0⟩; have n1 := e1.1; (try simp only [push_n, upd_n] at n1)))|((with_reducible refine g_callf n_impl_BucketNew ?_);refine aw_rcall s_impl_BucketNew ?_)|((with_reducible refine g_callf n_impl_WheelNew ?_);(refine aw_call s_impl_WheelNew ?_; rintro _ h2 ⟨e2, _, _, rfl, ⟨w3, w4, w5, F3, F4, F5, rfl, rfl, q3, q4, q5⟩, o2⟩; have n2 := e2.1; (try simp only [push_n, upd_n] at n2)))|((with_reducible refine g_idx ?_);((first|refine ix ?_|refine ixi ?_|(refine ixg ?_;intro _ _)|(refine ixgi ?_;intro _ _));first|rintro _ _ _ _ _ ⟨rfl,rfl⟩ _|rintro _ _ _ _ _ ⟨_,rfl,_⟩ _|rintro _ _ _ _ _ ⟨_,_,_,_,rfl,rfl,_,_⟩ _|intro _ _ _ _ _ _ _))|(refine sx ?_;intro _ _)|((with_reducible refine g_awp ?_);simp only [g0,g1,g2]))
    refine aw_upto c.stripes.toNat (fun i vs h4 => ∃ u G, vs = [.int .i64 (i : Int)] ∧ (i : Int) ≤ c.stripes ∧ Bk h4 (h.n + 1 + 1 + 1) [.int .i64 c.stripes, .int .i64 c.wait, .int .i64 c.budget, .int .i64 c.cache, .int .i64 c.queue, .int .i64 c.rate, .int .i64 c.burst, .int .i64 c.rule.kind, .int .i64 c.rule.n, .str c.rule.key, .str c.rule.text, w0, .int .i64 0, .bool false, u, .int .i64 (-1), .int .i64 c.rate, .int .i64 c.burst, .int .i64 c.burst, .int .i64 0, .nils, .int .i64 0, .int .i64 wheelNew.now, w3, w4, w5, .nils, .nils, .nils, (.sl ((h.push ⟨c.cs v, 0, 0⟩).push ⟨[AV.int .i64 0, AV.int .i64 0, AV.int .i64 0, AV.int .i64 0, AV.int .i64 0, AV.int .i64 0, AV.int .i64 0, AV.int .i64 0, AV.int .i64 0, AV.str ⟨#[]⟩, AV.str ⟨#[]⟩, AV.nils, AV.int .i64 0, AV.bool false, AV.nils, AV.int .i64 0, AV.int .i64 0, AV.int .i64 0, AV.int .i64 0, AV.int .i64 0, AV.nils, AV.int .i64 0, AV.int .i64 0, AV.nils, AV.nils, AV.nils, AV.nils, AV.nils, AV.nils, AV.nils, AV.nils, AV.int .i64 0], 0, 0⟩).n 0 5), .nils, .int .i64 1] 0 ∧ Bk h4 h.n (c.cs v) 0 ∧ Bk h4 (h.n + 1) [AV.int .i64 0, AV.int .i64 0, AV.int .i64 0, AV.int .i64 0, AV.int .i64 0, AV.int .i64 0, AV.int .i64 0, AV.int .i64 0, AV.int .i64 0, AV.str ⟨#[]⟩, AV.str ⟨#[]⟩, AV.nils, AV.int .i64 0, AV.bool false, AV.nils, AV.int .i64 0, AV.int .i64 0, AV.int .i64 0, AV.int .i64 0, AV.int .i64 0, AV.nils, AV.int .i64 0, AV.int .i64 0, AV.nils, AV.nils, AV.nils, AV.nils, AV.nils, AV.nils, AV.nils, AV.nils, AV.int .i64 0] 0 ∧ Kp h2 h4 [h.n + 1 + 1 + 1] ∧ SlRep h4 u (List.replicate i newSt) G ∧ Own h2.n h4 G) ?_ ?_
    · exact ⟨.nils, [], rfl, by omega, bk_auto, bk_auto, bk_auto, (Kp.refl _ _).updX (by simp) _, SlRep.nils, Own.nil⟩
    rintro i vs h4 _ ⟨u, G, rfl, hi, b3, b0, b1, k4, ru, ou⟩
    have n4 := k4.1
    simp only [g0]
    have bo : h.n + 1 + 1 + 1 + 1 ≤ h1.n := by omega
    have h12 : h1.n ≤ h2.n := n2
    (repeat' first|refine vs ?_|(refine br ?_ ?_<;>intro _<;>try(exfalso;first|omega|contradiction))|((with_reducible refine g_idx ?_);((first|refine ix ?_|refine ixi ?_|(refine ixg ?_;intro _ _)|(refine ixgi ?_;intro _ _));first|rintro _ _ _ _ _ ⟨rfl,rfl⟩ _|rintro _ _ _ _ _ ⟨_,rfl,_⟩ _|rintro _ _ _ _ _ ⟨_,_,_,_,rfl,rfl,_,_⟩ _|intro _ _ _ _ _ _ _))|(refine sx ?_;intro _ _)|((with_reducible refine g_awp ?_);simp only [g0,g1,g2]))
    · refine app1 (n := h2.n) (xs := List.replicate i newSt) (Fx := G) (a := newSt) slr_auto ⟨.nils, rfl, SlRep.nils⟩ (by rw [List.append_nil]; exact ol_auto) om_auto rfl ?_ ?_ ?_
      · simp; omega
      · simp; omega
      intro u' h' F' ek kp r' o'
      have n5 := kp.1
      (repeat' first|refine vs ?_|(refine br ?_ ?_<;>intro _<;>try(exfalso;first|omega|contradiction))|((with_reducible refine g_idx ?_);((first|refine ix ?_|refine ixi ?_|(refine ixg ?_;intro _ _)|(refine ixgi ?_;intro _ _));first|rintro _ _ _ _ _ ⟨rfl,rfl⟩ _|rintro _ _ _ _ _ ⟨_,rfl,_⟩ _|rintro _ _ _ _ _ ⟨_,_,_,_,rfl,rfl,_,_⟩ _|intro _ _ _ _ _ _ _))|(refine sx ?_;intro _ _)|((with_reducible refine g_awp ?_);simp only [g0,g1,g2]))
      exact ⟨by omega, u', F', rfl, by omega, bk_auto, bk_auto, bk_auto, (k4.new kp fun x hx => (ou.2 x hx).1).updX (by simp) _, by rw [show List.replicate (i + 1) newSt = List.replicate i newSt ++ [newSt] from List.replicate_succ']; exact slr_auto, ol_auto⟩
    · have hi2 : c.stripes.toNat = i := by omega
      have o3 := own_l o2
      have o4 := own_l (own_r o2)
      have o5 := own_r (own_r o2)
      have d3 := own_d o2
      have d4 := own_d (own_r o2)
      have tb : ∀ x ∈ [h.n + 1 + 1], x ∉ [h.n + 1 + 1 + 1] := by simp
      have tc : h.n + 1 ∉ [h.n + 1 + 1] := by simp
      have d34 := dis_l d3
      have d35 := dis_r d3
      refine ⟨rfl, _, rfl, (k4.ext (ext_auto : Ext h h2) (by simp; omega)).upd (by simp) _, _, G0 ++ (G ++ ([] ++ (F3 ++ (F4 ++ (F5 ++ ([] ++ ([] ++ ([] ++ ([h.n + 1 + 1] ++ []))))))))), rfl, ?_, ?_⟩
      · rw [worldNew_t hn, hi2]
        exact ⟨w0, u, .nils, w3, w4, w5, .nils, .nils, .nils, _, .nils, G0, G, [], F3, F4, F5, [], [], [], _, [], rfl, rfl, slr_auto, slr_auto, SlRep.nils, slr_auto, slr_auto, slr_auto, SlRep.nils, SlRep.nils, SlRep.nils, slr_auto, SlRep.nils⟩
      · simp only [List.nil_append, List.append_nil]
        exact (ol_app2 oll_auto (ol_app2 oll_auto (ol_app2 oll_auto (ol_app2 oll_auto (ol_app2 oll_auto oll_auto disn_auto) disn_auto) disn_auto) disn_auto) disn_auto).1
  · exact ⟨rfl, _, rfl, ext_auto, _, _, rfl, by rw [worldNew_f hn]; exact ⟨_, _, _, _, _, _, _, _, _, _, _, [], [], [], [], [], [], [], [], [], [], [], rfl, rfl, SlRep.nils, SlRep.nils, SlRep.nils, SlRep.nils, SlRep.nils, SlRep.nils, SlRep.nils, SlRep.nils, SlRep.nils, SlRep.nils, SlRep.nils⟩, Own.nil⟩
theorem s_spec_WorldNew {h : AH} {c : Conf} {v : AV} {F : List Nat} (ok : Cel.ok c.rule) (hs : Sz.sz c ≤ 67108864) (r : SlRep h v c.rule.l F) : ACalls Try.prog n_spec_WorldNew [.agg (c.cs v)] h (NewX Wld h (worldNew c)) := by
  have hsz : Sz.sz c = Sz.sz c.rule := rfl
  refine c_spec_WorldNew _ ?_
  unfold p_spec_WorldNew
  (repeat' first|refine vs ?_|((with_reducible refine g_chka ?_);refine w_chka bk_auto ?_)|(refine br ?_ ?_<;>intro _<;>try(exfalso;first|omega|contradiction))|((with_reducible refine g_callf n_spec_ConfOk ?_);(refine aw_rcall_b (s_spec_ConfOk ok (by omega) slr_auto) ?_ ?_ <;> intro hn <;> first | replace hn := bp_true hn | replace hn := bp_false hn))|((with_reducible refine g_callf n_spec_l13Copy ?_);(refine aw_call (s_spec_l13Copy c (by omega) _ _ _ ⟨_, rfl, slr_auto⟩) ?_; rintro _ h1 ⟨e1, _, G0, rfl, ⟨w0, rfl, q0⟩, o0⟩; have n1 := e1.1; (try simp only [push_n, upd_n] at n1)))|((with_reducible refine g_callf n_spec_BucketNew ?_);refine aw_rcall s_spec_BucketNew ?_)|((with_reducible refine g_callf n_spec_WheelNew ?_);(refine aw_call s_spec_WheelNew ?_; rintro _ h2 ⟨e2, _, _, rfl, ⟨w3, w4, w5, F3, F4, F5, rfl, rfl, q3, q4, q5⟩, o2⟩; have n2 := e2.1; (try simp only [push_n, upd_n] at n2)))|((with_reducible refine g_idx ?_);((first|refine ix ?_|refine ixi ?_|(refine ixg ?_;intro _ _)|(refine ixgi ?_;intro _ _));first|rintro _ _ _ _ _ ⟨rfl,rfl⟩ _|rintro _ _ _ _ _ ⟨_,rfl,_⟩ _|rintro _ _ _ _ _ ⟨_,_,_,_,rfl,rfl,_,_⟩ _|intro _ _ _ _ _ _ _))|(refine sx ?_;intro _ _)|((with_reducible refine g_awp ?_);simp only [g0,g1,g2]))
  · have hsN : (1 : Int) ≤ c.stripes ∧ c.stripes ≤ 3 := hn.1
    refine aw_upto c.stripes.toNat (fun i vs h4 => ∃ u G, vs = [.int .i64 (i : Int)] ∧ (i : Int) ≤ c.stripes ∧ Bk h4 (h1.n + 1) [.int .i64 c.stripes, .int .i64 c.wait, .int .i64 c.budget, .int .i64 c.cache, .int .i64 c.queue, .int .i64 c.rate, .int .i64 c.burst, .int .i64 c.rule.kind, .int .i64 c.rule.n, .str c.rule.key, .str c.rule.text, w0, .int .i64 0, .bool false, u, .int .i64 (-1), .int .i64 c.rate, .int .i64 c.burst, .int .i64 c.burst, .int .i64 0, .nils, .int .i64 0, .int .i64 wheelNew.now, w3, w4, w5, .nils, .nils, .nils, .nils, .nils, .int .i64 1] 0 ∧ Bk h4 h.n (c.cs v) 0 ∧ Bk h4 (h.n + 1) [AV.int .i64 0, AV.int .i64 0, AV.int .i64 0, AV.int .i64 0, AV.int .i64 0, AV.int .i64 0, AV.int .i64 0, AV.int .i64 0, AV.int .i64 0, AV.str ⟨#[]⟩, AV.str ⟨#[]⟩, AV.nils, AV.int .i64 0, AV.bool false, AV.nils, AV.int .i64 0, AV.int .i64 0, AV.int .i64 0, AV.int .i64 0, AV.int .i64 0, AV.nils, AV.int .i64 0, AV.int .i64 0, AV.nils, AV.nils, AV.nils, AV.nils, AV.nils, AV.nils, AV.nils, AV.nils, AV.int .i64 0] 0 ∧ Kp h2 h4 [h1.n + 1] ∧ SlRep h4 u (List.replicate i newSt) G ∧ Own h2.n h4 G) ?_ ?_
    · exact ⟨.nils, [], rfl, by omega, bk_auto, bk_auto, bk_auto, (Kp.refl _ _).updX (by simp) _, SlRep.nils, Own.nil⟩
    rintro i vs h4 _ ⟨u, G, rfl, hi, b3, b0, b1, k4, ru, ou⟩
    have n4 := k4.1
    simp only [g0]
    have bo : h.n + 1 + 1 ≤ h1.n := by omega
    have h12 : h1.n + 1 + 1 ≤ h2.n := n2
    (repeat' first|refine vs ?_|(refine br ?_ ?_<;>intro _<;>try(exfalso;first|omega|contradiction))|((with_reducible refine g_idx ?_);((first|refine ix ?_|refine ixi ?_|(refine ixg ?_;intro _ _)|(refine ixgi ?_;intro _ _));first|rintro _ _ _ _ _ ⟨rfl,rfl⟩ _|rintro _ _ _ _ _ ⟨_,rfl,_⟩ _|rintro _ _ _ _ _ ⟨_,_,_,_,rfl,rfl,_,_⟩ _|intro _ _ _ _ _ _ _))|(refine sx ?_;intro _ _)|((with_reducible refine g_awp ?_);simp only [g0,g1,g2]))
    · refine app1 (n := h2.n) (xs := List.replicate i newSt) (Fx := G) (a := newSt) slr_auto ⟨.nils, rfl, SlRep.nils⟩ (by rw [List.append_nil]; exact ol_auto) om_auto rfl ?_ ?_ ?_
      · simp; omega
      · simp; omega
      intro u' h' F' ek kp r' o'
      have n5 := kp.1
      (repeat' first|refine vs ?_|(refine br ?_ ?_<;>intro _<;>try(exfalso;first|omega|contradiction))|((with_reducible refine g_idx ?_);((first|refine ix ?_|refine ixi ?_|(refine ixg ?_;intro _ _)|(refine ixgi ?_;intro _ _));first|rintro _ _ _ _ _ ⟨rfl,rfl⟩ _|rintro _ _ _ _ _ ⟨_,rfl,_⟩ _|rintro _ _ _ _ _ ⟨_,_,_,_,rfl,rfl,_,_⟩ _|intro _ _ _ _ _ _ _))|(refine sx ?_;intro _ _)|((with_reducible refine g_awp ?_);simp only [g0,g1,g2]))
      exact ⟨by omega, u', F', rfl, by omega, bk_auto, bk_auto, bk_auto, (k4.new kp fun x hx => (ou.2 x hx).1).updX (by simp) _, by rw [show List.replicate (i + 1) newSt = List.replicate i newSt ++ [newSt] from List.replicate_succ']; exact slr_auto, ol_auto⟩
    have hi2 : c.stripes.toNat = i := by omega
    refine aw_upto 5 (fun j vs h5 => ∃ t G', vs = [.int .i64 (j : Int)] ∧ j ≤ 5 ∧ Bk h5 (h1.n + 1) [.int .i64 c.stripes, .int .i64 c.wait, .int .i64 c.budget, .int .i64 c.cache, .int .i64 c.queue, .int .i64 c.rate, .int .i64 c.burst, .int .i64 c.rule.kind, .int .i64 c.rule.n, .str c.rule.key, .str c.rule.text, w0, .int .i64 0, .bool false, u, .int .i64 (-1), .int .i64 c.rate, .int .i64 c.burst, .int .i64 c.burst, .int .i64 0, .nils, .int .i64 0, .int .i64 wheelNew.now, w3, w4, w5, .nils, .nils, .nils, t, .nils, .int .i64 1] 0 ∧ Bk h5 (h.n + 1) [AV.int .i64 0, AV.int .i64 0, AV.int .i64 0, AV.int .i64 0, AV.int .i64 0, AV.int .i64 0, AV.int .i64 0, AV.int .i64 0, AV.int .i64 0, AV.str ⟨#[]⟩, AV.str ⟨#[]⟩, AV.nils, AV.int .i64 0, AV.bool false, AV.nils, AV.int .i64 0, AV.int .i64 0, AV.int .i64 0, AV.int .i64 0, AV.int .i64 0, AV.nils, AV.int .i64 0, AV.int .i64 0, AV.nils, AV.nils, AV.nils, AV.nils, AV.nils, AV.nils, AV.nils, AV.nils, AV.int .i64 0] 0 ∧ Kp h4 h5 [h1.n + 1] ∧ SlRep h5 t (List.replicate j noTask) G' ∧ Own h4.n h5 G') ?_ ?_
    · exact ⟨.nils, [], rfl, by omega, bk_auto, bk_auto, Kp.refl _ _, SlRep.nils, Own.nil⟩
    rintro j vs h5 _ ⟨t, G', rfl, hj, b3', b1', k5, rt, ot⟩
    have n5 := k5.1
    simp only [g0]
    (repeat' first|refine vs ?_|(refine br ?_ ?_<;>intro _<;>try(exfalso;first|omega|contradiction))|((with_reducible refine g_idx ?_);((first|refine ix ?_|refine ixi ?_|(refine ixg ?_;intro _ _)|(refine ixgi ?_;intro _ _));first|rintro _ _ _ _ _ ⟨rfl,rfl⟩ _|rintro _ _ _ _ _ ⟨_,rfl,_⟩ _|rintro _ _ _ _ _ ⟨_,_,_,_,rfl,rfl,_,_⟩ _|intro _ _ _ _ _ _ _))|(refine sx ?_;intro _ _)|((with_reducible refine g_awp ?_);simp only [g0,g1,g2]))
    · refine app1 (n := h4.n) (xs := List.replicate j noTask) (Fx := G') (a := noTask) slr_auto ⟨.nils, .nils, [], [], rfl, rfl, SlRep.nils, SlRep.nils⟩ (by simp only [List.append_nil]; exact ol_auto) om_auto rfl ?_ ?_ ?_
      · simp; omega
      · simp; omega
      intro u' h' F' ek kp r' o'
      have n5 := kp.1
      (repeat' first|refine vs ?_|(refine br ?_ ?_<;>intro _<;>try(exfalso;first|omega|contradiction))|((with_reducible refine g_idx ?_);((first|refine ix ?_|refine ixi ?_|(refine ixg ?_;intro _ _)|(refine ixgi ?_;intro _ _));first|rintro _ _ _ _ _ ⟨rfl,rfl⟩ _|rintro _ _ _ _ _ ⟨_,rfl,_⟩ _|rintro _ _ _ _ _ ⟨_,_,_,_,rfl,rfl,_,_⟩ _|intro _ _ _ _ _ _ _))|(refine sx ?_;intro _ _)|((with_reducible refine g_awp ?_);simp only [g0,g1,g2]))
      exact ⟨by omega, u', F', rfl, by omega, bk_auto, bk_auto, (k5.new kp fun x hx => (ot.2 x hx).1).updX (by simp) _, by rw [show List.replicate (j + 1) noTask = List.replicate j noTask ++ [noTask] from List.replicate_succ']; exact slr_auto, ol_auto⟩
    · have hj2 : j = 5 := by omega
      subst hj2
      have o3 := own_l o2
      have o4 := own_l (own_r o2)
      have o5 := own_r (own_r o2)
      have d3 := own_d o2
      have d4 := own_d (own_r o2)
      have tc : h1.n + 1 ∉ G' := nin_own ot (by omega)
      have d34 := dis_l d3
      have d35 := dis_r d3
      refine ⟨rfl, _, rfl, (k5.ext (k4.ext (ext_auto : Ext h h2) (by simp; omega)) (by simp; omega)).upd (by simp) _, _, G0 ++ (G ++ ([] ++ (F3 ++ (F4 ++ (F5 ++ ([] ++ ([] ++ ([] ++ (G' ++ []))))))))), rfl, ?_, ?_⟩
      · rw [worldNew_t hn, hi2]
        exact ⟨w0, u, .nils, w3, w4, w5, .nils, .nils, .nils, _, .nils, G0, G, [], F3, F4, F5, [], [], [], _, [], rfl, rfl, slr_auto, slr_auto, SlRep.nils, slr_auto, slr_auto, slr_auto, SlRep.nils, SlRep.nils, SlRep.nils, slr_auto, SlRep.nils⟩
      · simp only [List.nil_append, List.append_nil]
        exact (ol_app2 oll_auto (ol_app2 oll_auto (ol_app2 oll_auto (ol_app2 oll_auto (ol_app2 oll_auto oll_auto disn_auto) disn_auto) disn_auto) disn_auto) disn_auto).1
  · exact ⟨rfl, _, rfl, ext_auto, _, _, rfl, by rw [worldNew_f hn]; exact ⟨_, _, _, _, _, _, _, _, _, _, _, [], [], [], [], [], [], [], [], [], [], [], rfl, rfl, SlRep.nils, SlRep.nils, SlRep.nils, SlRep.nils, SlRep.nils, SlRep.nils, SlRep.nils, SlRep.nils, SlRep.nils, SlRep.nils, SlRep.nils⟩, Own.nil⟩
end Go.Proofs.Ytideefohbkhhhaa
