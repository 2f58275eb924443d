import Derived.Test.YtjnekdbdmoibgaaGreatCW71
import Derived.Test.YtjnekdbdmoibgaaGreatCKW2
import Derived.Test.YtjnekdbdmoibgaaGreatCK5
/- Who begins to judge: the whole. -/
set_option linter.unusedSimpArgs false
set_option linter.unusedVariables false
set_option maxHeartbeats 2000000
namespace Go.Proofs.YtjnekdbdmoibgaaGreat
open Go Go.Ab
attribute [local irreducible] afill
section
/- spec.Begin -/
def p_spec_Begin (x0 x1 : AV) : Prog := .op (.box x0) fun v1 => .op (.alloc z32_253) fun v2 => .op (.ldn 32 v1) fun v3 => .op (.call n_spec_l16Copy [v3]) fun v4 => .op (.alloc z32_253) fun v5 => .op (.st 32 v5 v4) fun v6 => .op (.ldn 32 v1) fun v7 => .op (.call n_spec_WorldOk [v7]) fun v8 => .op (.una .not v8) fun v9 => .gop v9 false (.mv x1) fun v10 => .gop v9 false (.call n_spec_l1In [v10, AV.int .i64 3, AV.int .i64 4]) fun v11 => .gop v9 false (.una .not v11) fun v12 => .op (.pick v9 (AV.bool true) v12) fun v13 => .gop v13 false (.fad 29 v1) fun v14 => .gop v13 false (.ld1 v14) fun v15 => .gop v13 false (.mv x1) fun v16 => .gop v13 false (.idx 12 v15 v16) fun v17 => .gop v13 false (.fad 0 v17) fun v18 => .gop v13 false (.ld1 v18) fun v19 => .gop v13 false (.bin 0 .neq v19 (AV.int .i64 0)) fun v20 => .op (.pick v13 (AV.bool true) v20) fun v21 => .gop v21 false (.fad 26 v1) fun v22 => .gop v21 false (.ld1 v22) fun v23 => .gop v21 false (.len 0 v23) fun v24 => .gop v21 false (.bin 0 .eql v24 (AV.int .i64 0)) fun v25 => .op (.pick v21 (AV.bool true) v25) fun v26 => .ite v26 (.op (.ldn 32 v5) fun v27 => .op (.st 32 v2 v27) fun v28 => .fin [.cn 32 v2, .val (AV.bool false)]) (.op (.call n_spec_l18Begin [v5, x1]) fun v29 => .op (.ldn 32 v5) fun v30 => .op (.st 32 v2 v30) fun v31 => .fin [.cn 32 v2, .val (AV.bool true)])
theorem c_spec_Begin (x0 x1 : AV) : CC Tryz.prog n_spec_Begin [x0, x1] (p_spec_Begin x0 x1) := cc Tryz.func25 [] (fun _ => []) (by kernel_rfl)
/- impl.Begin -/
def p_impl_Begin (x0 x1 : AV) : Prog := .op (.box x0) fun v1 => .op (.alloc z32_253) fun v2 => .op (.ldn 32 v1) fun v3 => .op (.call n_impl_copyWorld [v3]) fun v4 => .op (.alloc z32_253) fun v5 => .op (.st 32 v5 v4) fun v6 => .op (.ldn 32 v1) fun v7 => .op (.call n_impl_WorldOk [v7]) fun v8 => .op (.una .not v8) fun v9 => .gop v9 false (.mv x1) fun v10 => .gop v9 false (.call n_impl_within [v10, AV.int .i64 3, AV.int .i64 4]) fun v11 => .gop v9 false (.una .not v11) fun v12 => .op (.pick v9 (AV.bool true) v12) fun v13 => .gop v13 false (.fad 29 v1) fun v14 => .gop v13 false (.ld1 v14) fun v15 => .gop v13 false (.mv x1) fun v16 => .gop v13 false (.idx 12 v15 v16) fun v17 => .gop v13 false (.fad 0 v17) fun v18 => .gop v13 false (.ld1 v18) fun v19 => .gop v13 false (.bin 0 .neq v19 (AV.int .i64 0)) fun v20 => .op (.pick v13 (AV.bool true) v20) fun v21 => .gop v21 false (.fad 26 v1) fun v22 => .gop v21 false (.ld1 v22) fun v23 => .gop v21 false (.len 0 v23) fun v24 => .gop v21 false (.bin 0 .eql v24 (AV.int .i64 0)) fun v25 => .op (.pick v21 (AV.bool true) v25) fun v26 => .ite v26 (.op (.ldn 32 v5) fun v27 => .op (.st 32 v2 v27) fun v28 => .fin [.cn 32 v2, .val (AV.bool false)]) (.op (.fad 26 v1) fun v29 => .op (.ld1 v29) fun v30 => .op (.idx 3 v30 (AV.int .i64 0)) fun v31 => .op (.ldn 3 v31) fun v32 => .op (.alloc [AV.int .i64 0, AV.int .i64 0, AV.int .i64 0]) fun v33 => .op (.st 3 v33 v32) fun v34 => .op (.fad 26 v5) fun v35 => .op (.ld1 v35) fun v36 => .op (.slc 3 v36 (some (AV.int .i64 1)) none none) fun v37 => .op (.fad 26 v5) fun v38 => .op (.st 1 v38 v37) fun v39 => .op (.fad 29 v5) fun v40 => .op (.ld1 v40) fun v41 => .op (.fad 1 v33) fun v42 => .op (.ld1 v42) fun v43 => .op (.fad 0 v33) fun v44 => .op (.ld1 v44) fun v45 => .op (.fad 30 v1) fun v46 => .op (.ld1 v46) fun v47 => .op (.len 0 v47) fun v48 => .op (.build z12_f83 [(0, 1, AV.int .i64 2), (8, 1, v43), (9, 1, v45), (11, 1, v48)]) fun v49 => .op (.idx 12 v41 x1) fun v50 => .op (.st 12 v50 v49) fun v51 => .op (.fad 30 v5) fun v52 => .op (.ld1 v52) fun v53 => .op (.fad 1 v33) fun v54 => .op (.ld1 v54) fun v55 => .op (.fad 0 v33) fun v56 => .op (.ld1 v56) fun v57 => .op (.ldn 32 v1) fun v58 => .op (.fad 12 v1) fun v59 => .op (.ld1 v59) fun v60 => .op (.call n_impl_TimeOf [v58]) fun v61 => .chk (.ld1 v52) v53 (.chk (.ld1 v54) v55 (.chk (.ld1 v56) v57 (.chk (.ld1 v59) v60 (.op (.build z20_1ff [(0, 1, AV.int .i64 2), (1, 1, x1), (8, 1, v55), (9, 1, v57), (16, 1, v61), (17, 1, v60), (18, 1, AV.int .i64 (-1)), (19, 1, AV.int .i64 (-1))]) fun v62 => .op (.bslice 20 1 z20_1ff [(0, 20, v62)]) fun v63 => .op (.app 20 168 v53 v63) fun v64 => .op (.fad 30 v5) fun v65 => .op (.st 1 v65 v64) fun v66 => .op (.fad 12 v5) fun v67 => .op (.ld1 v67) fun v68 => .op (.bin 0 .add v68 (AV.int .i64 1)) fun v69 => .op (.fad 12 v5) fun v70 => .op (.st 1 v70 v69) fun v71 => .op (.ldn 32 v5) fun v72 => .op (.st 32 v2 v72) fun v73 => .fin [.cn 32 v2, .val (AV.bool true)])))))
theorem c_impl_Begin (x0 x1 : AV) : CC Tryz.prog n_impl_Begin [x0, x1] (p_impl_Begin x0 x1) := cc Tryz.func26 [] (fun r => if r = 7 then [(0, []), (1, []), (2, []), (3, []), (4, []), (5, []), (6, []), (7, []), (9, []), (10, []), (8, [1, 4, 6, 10]), (11, []), (12, []), (13, []), (14, []), (15, [])] else []) (by kernel_rfl)
end
def canBegin (x : Wld) (k : Int) : Prop := worldOk x ∧ (3 ≤ k ∧ k ≤ 4) ∧ (∃ t, x.tasks[k.toNat]? = some t ∧ t.op = 0) ∧ x.due ≠ []
noncomputable def beginP (x : Wld) (k : Int) : Wld × Bool := if bp (canBegin x k) = true then (beginW x k.toNat, true) else (x, false)
theorem beginP_y {x : Wld} {k : Int} (h : canBegin x k) : beginP x k = (beginW x k.toNat, true) := if_pos (bp_t h)
theorem beginP_n {x : Wld} {k : Int} (h : ¬ canBegin x k) : beginP x k = (x, false) := if_neg (by rw [bp_f h]; decide)
theorem s_spec_Begin {h : AH} {x : Wld} {cs : List AV} {F : List Nat} {k : Int} (ok : Cel.ok x) (hs : Sz.sz x ≤ 67108864) (r : Cel.rep h x cs F) : ACalls Tryz.prog n_spec_Begin [.agg cs, .int .i64 k] h (NewP h (beginP x k).1 (beginP x k).2) := by
  have hs0 := hs
  have r0' := r
  obtain ⟨v0, v1, v2, v3, v4, v5, v6, v7, v8, v9, v10, F0, F1, F2, F3, F4, F5, F6, F7, F8, F9, F10, rfl, rfl, r0, r1, r2, r3, r4, r5, r6, r7, r8, r9, r10⟩ := r
  have hs : Sz.sz x.c + (x.st.length + szs x.st) + (x.cache.length + szs x.cache) + Sz.sz x.w + (x.due.length + szs x.due) + (x.queue.length + szs x.queue) + (x.out.length + szs x.out) + (x.tasks.length + szs x.tasks) + (x.deeds.length + szs x.deeds) ≤ 67108864 := hs
  have hl1 := r1.small
  have hl9 := r9.small
  refine c_spec_Begin _ _ ?_
  unfold p_spec_Begin
  refine prolog (s_spec_l16Copy x hs0) r0' ?_
  intro H B V G e nB hB bx bz w
  have bB : Bk H B [AV.int .i64 x.c.stripes, AV.int .i64 x.c.wait, AV.int .i64 x.c.budget, AV.int .i64 x.c.cache, AV.int .i64 x.c.queue, AV.int .i64 x.c.rate, AV.int .i64 x.c.burst, AV.int .i64 x.c.rule.kind, AV.int .i64 x.c.rule.n, AV.str x.c.rule.key, AV.str x.c.rule.text, V.v0, AV.int .i64 x.time, AV.bool x.shut, V.v1, AV.int .i64 x.ruleHeld, AV.int .i64 x.b.rate, AV.int .i64 x.b.burst, AV.int .i64 x.b.tokens, AV.int .i64 x.b.at_, V.v2, AV.int .i64 x.used, AV.int .i64 x.w.now, V.v3, V.v4, V.v5, V.v6, V.v7, V.v8, V.v9, V.v10, AV.int .i64 x.next] 0 := w.bk
  by_cases hw : worldOk x ∧ (3 ≤ k ∧ k ≤ 4)
  · have h5 := hw.1.2.1
    obtain ⟨t, ht, -, -⟩ := drop_step (show k.toNat < x.tasks.length by omega)
    obtain ⟨k', rfl⟩ : ∃ k' : Nat, k = k' := ⟨k.toNat, by omega⟩
    simp only [Int.toNat_natCast] at ht
    by_cases hg : t.op = 0 ∧ 0 < x.due.length
    · obtain ⟨td, rest, hd⟩ : ∃ td rest, x.due = td :: rest := by
        cases hq : x.due with
        | nil => rw [hq] at hg; simp at hg
        | cons a l => exact ⟨a, l, rfl⟩
      rw [beginP_y ⟨hw.1, hw.2, ⟨t, ht, hg.1⟩, by rw [hd]; simp⟩]
      (repeat' first|refine vs ?_|(refine br ?_ ?_<;>intro _<;>try(exfalso;first|omega|contradiction))|((with_reducible refine g_callf n_spec_WorldOk ?_);(refine aw_rcall_b (s_spec_WorldOk (x := x) ok hs0 ⟨_, _, _, _, _, _, _, _, _, _, _, _, _, _, _, _, _, _, _, _, _, _, rfl, rfl, slr_auto, slr_auto, slr_auto, slr_auto, slr_auto, slr_auto, slr_auto, slr_auto, slr_auto, slr_auto, slr_auto⟩) ?_ ?_ <;> intro hn <;> first | replace hn := bp_true hn | replace hn := bp_false hn))|((with_reducible refine g_callf n_spec_l1In ?_);(refine aw_rcall_b (s_spec_l1In) ?_ ?_ <;> intro hb <;> (first | replace hb := inB_t hb | replace hb := inB_f hb)))|((with_reducible refine g_idx ?_);((first|refine ix ?_|refine ixi ?_|(refine ixg ?_;intro _ _)|(refine ixgi ?_;intro _ _));first|rintro _ _ _ _ _ ⟨rfl,rfl⟩ _|rintro _ _ _ _ _ ⟨_,rfl,_⟩ _|rintro _ _ _ _ _ ⟨_,_,_,_,rfl,rfl,_,_⟩ _|intro _ _ _ _ _ _ _))|(refine sx ?_;intro _ _)|((with_reducible refine g_awp ?_);simp only [g0,g1,g2]))
      all_goals try (exfalso; first | omega | exact absurd hw.1 (by assumption))
      refine aw_call (s_spec_l18Begin w (by omega) hd (by omega) hs0) ?_
      rintro _ h2 ⟨rfl, W⟩
      exact ret_w w bz rfl e (by omega) W
    · rw [beginP_n fun c => hg ⟨by obtain ⟨t', ht', q⟩ := c.2.2.1; simp only [Int.toNat_natCast] at ht'; rw [ht] at ht'; cases ht'; exact q, List.length_pos_iff.2 c.2.2.2⟩]
      (repeat' first|refine vs ?_|(refine br ?_ ?_<;>intro _<;>try(exfalso;first|omega|contradiction))|((with_reducible refine g_callf n_spec_WorldOk ?_);(refine aw_rcall_b (s_spec_WorldOk (x := x) ok hs0 ⟨_, _, _, _, _, _, _, _, _, _, _, _, _, _, _, _, _, _, _, _, _, _, rfl, rfl, slr_auto, slr_auto, slr_auto, slr_auto, slr_auto, slr_auto, slr_auto, slr_auto, slr_auto, slr_auto, slr_auto⟩) ?_ ?_ <;> intro hn <;> first | replace hn := bp_true hn | replace hn := bp_false hn))|((with_reducible refine g_callf n_spec_l1In ?_);(refine aw_rcall_b (s_spec_l1In) ?_ ?_ <;> intro hb <;> (first | replace hb := inB_t hb | replace hb := inB_f hb)))|((with_reducible refine g_idx ?_);((first|refine ix ?_|refine ixi ?_|(refine ixg ?_;intro _ _)|(refine ixgi ?_;intro _ _));first|rintro _ _ _ _ _ ⟨rfl,rfl⟩ _|rintro _ _ _ _ _ ⟨_,rfl,_⟩ _|rintro _ _ _ _ _ ⟨_,_,_,_,rfl,rfl,_,_⟩ _|intro _ _ _ _ _ _ _))|(refine sx ?_;intro _ _)|((with_reducible refine g_awp ?_);simp only [g0,g1,g2]))
      all_goals first
        | (exfalso; first | omega | exact absurd hw.1 (by assumption))
        | exact ret_e w bz e (by omega)
  · rw [beginP_n fun c => hw ⟨c.1, c.2.1⟩]
    (repeat' first|refine vs ?_|(refine br ?_ ?_<;>intro _<;>try(exfalso;first|omega|contradiction))|((with_reducible refine g_callf n_spec_WorldOk ?_);(refine aw_rcall_b (s_spec_WorldOk (x := x) ok hs0 ⟨_, _, _, _, _, _, _, _, _, _, _, _, _, _, _, _, _, _, _, _, _, _, rfl, rfl, slr_auto, slr_auto, slr_auto, slr_auto, slr_auto, slr_auto, slr_auto, slr_auto, slr_auto, slr_auto, slr_auto⟩) ?_ ?_ <;> intro hn <;> first | replace hn := bp_true hn | replace hn := bp_false hn))|((with_reducible refine g_callf n_spec_l1In ?_);(refine aw_rcall_b (s_spec_l1In) ?_ ?_ <;> intro hb <;> (first | replace hb := inB_t hb | replace hb := inB_f hb)))|((with_reducible refine g_idx ?_);((first|refine ix ?_|refine ixi ?_|(refine ixg ?_;intro _ _)|(refine ixgi ?_;intro _ _));first|rintro _ _ _ _ _ ⟨rfl,rfl⟩ _|rintro _ _ _ _ _ ⟨_,rfl,_⟩ _|rintro _ _ _ _ _ ⟨_,_,_,_,rfl,rfl,_,_⟩ _|intro _ _ _ _ _ _ _))|(refine sx ?_;intro _ _)|((with_reducible refine g_awp ?_);simp only [g0,g1,g2]))
    all_goals first
      | exact absurd ⟨by assumption, by omega⟩ hw
      | exact ret_e w bz e (by omega)
theorem s_impl_Begin {h : AH} {x : Wld} {cs : List AV} {F : List Nat} {k : Int} (ok : Cel.ok x) (hs : Sz.sz x ≤ 67108864) (r : Cel.rep h x cs F) : ACalls Tryz.prog n_impl_Begin [.agg cs, .int .i64 k] h (NewP h (beginP x k).1 (beginP x k).2) := by
  have hs0 := hs
  have r0' := r
  obtain ⟨v0, v1, v2, v3, v4, v5, v6, v7, v8, v9, v10, F0, F1, F2, F3, F4, F5, F6, F7, F8, F9, F10, rfl, rfl, r0, r1, r2, r3, r4, r5, r6, r7, r8, r9, r10⟩ := r
  have hs : Sz.sz x.c + (x.st.length + szs x.st) + (x.cache.length + szs x.cache) + Sz.sz x.w + (x.due.length + szs x.due) + (x.queue.length + szs x.queue) + (x.out.length + szs x.out) + (x.tasks.length + szs x.tasks) + (x.deeds.length + szs x.deeds) ≤ 67108864 := hs
  have hl1 := r1.small
  have hl9 := r9.small
  refine c_impl_Begin _ _ ?_
  unfold p_impl_Begin
  refine prolog (s_impl_copyWorld x hs0) r0' ?_
  intro H B V G e nB hB bx bz w
  have bB : Bk H B [AV.int .i64 x.c.stripes, AV.int .i64 x.c.wait, AV.int .i64 x.c.budget, AV.int .i64 x.c.cache, AV.int .i64 x.c.queue, AV.int .i64 x.c.rate, AV.int .i64 x.c.burst, AV.int .i64 x.c.rule.kind, AV.int .i64 x.c.rule.n, AV.str x.c.rule.key, AV.str x.c.rule.text, V.v0, AV.int .i64 x.time, AV.bool x.shut, V.v1, AV.int .i64 x.ruleHeld, AV.int .i64 x.b.rate, AV.int .i64 x.b.burst, AV.int .i64 x.b.tokens, AV.int .i64 x.b.at_, V.v2, AV.int .i64 x.used, AV.int .i64 x.w.now, V.v3, V.v4, V.v5, V.v6, V.v7, V.v8, V.v9, V.v10, AV.int .i64 x.next] 0 := w.bk
  by_cases hw : worldOk x ∧ (3 ≤ k ∧ k ≤ 4)
  · have h5 := hw.1.2.1
    obtain ⟨t, ht, -, -⟩ := drop_step (show k.toNat < x.tasks.length by omega)
    obtain ⟨k', rfl⟩ : ∃ k' : Nat, k = k' := ⟨k.toNat, by omega⟩
    simp only [Int.toNat_natCast] at ht
    by_cases hg : t.op = 0 ∧ 0 < x.due.length
    · obtain ⟨td, rest, hd⟩ : ∃ td rest, x.due = td :: rest := by
        cases hq : x.due with
        | nil => rw [hq] at hg; simp at hg
        | cons a l => exact ⟨a, l, rfl⟩
      rw [beginP_y ⟨hw.1, hw.2, ⟨t, ht, hg.1⟩, by rw [hd]; simp⟩]
      have hdl : x.due.length = rest.length + 1 := by rw [hd]; rfl
      have r6H : SlRep H v6 x.due F6 := r6.ext e
      have hd0 : x.due[0]? = some td := by rw [hd]; rfl
      (repeat' first|refine vs ?_|(refine br ?_ ?_<;>intro _<;>try(exfalso;first|omega|contradiction))|((with_reducible refine g_callf n_impl_WorldOk ?_);(refine aw_rcall_b (s_impl_WorldOk (x := x) ok hs0 ⟨_, _, _, _, _, _, _, _, _, _, _, _, _, _, _, _, _, _, _, _, _, _, rfl, rfl, slr_auto, slr_auto, slr_auto, slr_auto, slr_auto, slr_auto, slr_auto, slr_auto, slr_auto, slr_auto, slr_auto⟩) ?_ ?_ <;> intro hn <;> first | replace hn := bp_true hn | replace hn := bp_false hn))|((with_reducible refine g_callf n_impl_within ?_);(refine aw_rcall_b (s_impl_within) ?_ ?_ <;> intro hb <;> (first | replace hb := inB_t hb | replace hb := inB_f hb)))|((with_reducible refine g_idx ?_);((first|refine ix ?_|refine ixi ?_|(refine ixg ?_;intro _ _)|(refine ixgi ?_;intro _ _));first|rintro _ _ _ _ _ ⟨rfl,rfl⟩ _|rintro _ _ _ _ _ ⟨_,rfl,_⟩ _|rintro _ _ _ _ _ ⟨_,_,_,_,rfl,rfl,_,_⟩ _|intro _ _ _ _ _ _ _))|(refine sx ?_;intro _ _)|((with_reducible refine g_awp ?_);simp only [g0,g1,g2]))
      all_goals try (exfalso; first | omega | exact absurd hw.1 (by assumption))
      rw [Int.toNat_natCast, beginW_c hd]
      have hbB := bB.1
      have hk : k' < x.tasks.length := by omega
      have lt := w.own.2
      have l6 := w.l6.2
      obtain ⟨u1, u2, B6, E1, E2, eF, -, -, p2, t2, -, s2⟩ := w.r6.cut (P := Tryz.prog) w.o6 (show 1 ≤ x.due.length by omega)
      rw [hd, List.drop_succ_cons, List.drop_zero] at p2
      have o62 : Own (h.n + 1 + 1) H (B6 ++ E2) := by
        have o := w.o6
        rw [eF] at o
        exact own_app (own_l o) (own_r (own_r o)) (Nat.le_refl _) (dis_r (own_d o))
      have m62 : ∀ c ∈ B6 ++ E2, c ∈ G.f6 := fun c hc => by
        rw [eF]
        rcases List.mem_append.1 hc with q | q
        · exact List.mem_append_left _ q
        · exact List.mem_append_right _ (List.mem_append_right _ q)
      refine aw_go (s2 _ _ (fun c hc => (ext_auto : Ext H _).2 c (l6 c (by rw [eF]; simp [hc]))) ?_)
      have r10H : SlRep H v10 x.deeds F10 := r10.ext e
      have n62 : B ∉ B6 ++ E2 := fun hm => w.n6 (m62 B hm)
      (repeat' first|refine vs ?_|(refine br ?_ ?_<;>intro _<;>try(exfalso;first|omega|contradiction))|((with_reducible refine g_idx ?_);((first|refine ix ?_|refine ixi ?_|(refine ixg ?_;intro _ _)|(refine ixgi ?_;intro _ _));first|rintro _ _ _ _ _ ⟨rfl,rfl⟩ _|rintro _ _ _ _ _ ⟨_,rfl,_⟩ _|rintro _ _ _ _ _ ⟨_,_,_,_,rfl,rfl,_,_⟩ _|intro _ _ _ _ _ _ _))|(refine sx ?_;intro _ _)|((with_reducible refine g_awp ?_);simp only [g0,g1,g2]))
      refine aw_gen (R := fun h2 => Bk h2 B [AV.int .i64 x.c.stripes, AV.int .i64 x.c.wait, AV.int .i64 x.c.budget, AV.int .i64 x.c.cache, AV.int .i64 x.c.queue, AV.int .i64 x.c.rate, AV.int .i64 x.c.burst, AV.int .i64 x.c.rule.kind, AV.int .i64 x.c.rule.n, AV.str x.c.rule.key, AV.str x.c.rule.text, V.v0, AV.int .i64 x.time, AV.bool x.shut, V.v1, AV.int .i64 x.ruleHeld, AV.int .i64 x.b.rate, AV.int .i64 x.b.burst, AV.int .i64 x.b.tokens, AV.int .i64 x.b.at_, V.v2, AV.int .i64 x.used, AV.int .i64 x.w.now, V.v3, V.v4, V.v5, u2, V.v7, V.v8, V.v9, V.v10, AV.int .i64 x.next] 0 ∧ Bk h2 H.n [.int .i64 td.id, .int .i64 td.trace, .int .i64 td.at_] 0 ∧ Kp H h2 [B] ∧ SlRep h2 u2 rest (B6 ++ E2) ∧ Own (h.n + 1 + 1) h2 (B6 ++ E2) ∧ H.n + 1 ≤ h2.n) ⟨bk_auto, bk_auto, ?_, slr_auto, (ol_push1 (ol_upd1 ⟨o62, p2.lt⟩ n62)).1, by simp⟩ ?_
      · exact ((Kp.refl H _).updX (by simp) _).push _
      rintro h2 ⟨b2, bt2, k2, q2, o2, n2⟩
      have bx2 := bk_kp1 k2 bx (by simp; omega)
      have bz2 := bk_kp1 k2 bz (by simp; omega)
      have r102 : SlRep h2 v10 x.deeds F10 := slr_kp1 k2 r10H fun c hc hm => by have := r10.lt c hc; have := List.mem_singleton.1 hm; omega
      have w1 : PW (h.n + 1 + 1) h2 B { x with due := rest } { V with v6 := u2 } { G with f6 := B6 ++ E2 } := w.putG6 b2 (k2.mono fun c hc => by rw [List.mem_singleton.1 hc]; exact List.mem_cons_self) q2 o2 n62 fun c hc => .inl (m62 c hc)
      have mv1 : Mv H.n H B G h2 { G with f6 := B6 ++ E2 } := Mv.ofX k2 (fun c hc => .inl (List.mem_singleton.1 hc)) (Nat.le_refl _) fun c hc => .inl ((WF.set6 hc).elim (fun q => G.in6 c (m62 c q)) id)
      (repeat' first|refine vs ?_|(refine br ?_ ?_<;>intro _<;>try(exfalso;first|omega|contradiction))|((with_reducible refine g_idx ?_);((first|refine ix ?_|refine ixi ?_|(refine ixg ?_;intro _ _)|(refine ixgi ?_;intro _ _));first|rintro _ _ _ _ _ ⟨rfl,rfl⟩ _|rintro _ _ _ _ _ ⟨_,rfl,_⟩ _|rintro _ _ _ _ _ ⟨_,_,_,_,rfl,rfl,_,_⟩ _|intro _ _ _ _ _ _ _))|(refine sx ?_;intro _ _)|((with_reducible refine g_awp ?_);simp only [g0,g1,g2]))
      obtain ⟨bb, off, _, Fi, R, ev, ⟨y0, y1, H0, H1, rfl, rfl, -, -⟩, oF, el, hdj, mR, mF⟩ := w1.r9.elt w1.o9 ht
      have ev : V.v9 = .sl bb off x.tasks.length := ev
      have hF9 : ∀ c ∈ G.f9, c < H.n := w.l9.2
      have oF9 : ∀ c ∈ G.f9, h.n + 1 + 1 ≤ c := fun c hc => (w.l9.1.2 c hc).1
      have mR9 : ∀ c ∈ R, c ∈ G.f9 := mR
      have hbh : bb < H.n := hF9 bb (mR9 bb el.mem)
      have hbo := oF9 bb (mR9 bb el.mem)
      have hbbb : B ≠ bb := fun e => w.n9 (e ▸ mR9 bb el.mem)
      have el : Elt Task (h.n + 1 + 1) h2 bb (off + k' * 12) [.int .i64 t.op, .int .i64 t.pc, .int .i64 t.s.trace, .int .i64 t.s.id, .int .i64 t.s.start, .int .i64 t.s.fin, .bool t.s.err, y0, .int .i64 t.trace, .int .i64 t.stamp, y1, .int .i64 t.h] V.v9 x.tasks k' R := el
      rw [ev]
      refine aw_idx_raw hk ?_
      refine Elt.st0 el rfl rfl sp_auto ?_
      intro h3 el3 k3 n3
      obtain ⟨F2, w2, m2, kk2⟩ := w1.fin9 (y' := ⟨2, 0, noSpan, td.trace, td.id, [], x.deeds.length⟩) (G := []) el3 ⟨.nils, .nils, [], [], rfl, rfl, SlRep.nils, SlRep.nils⟩ Own.nil (by simp) mR (by simp) (k3.mono fun c hc => by rw [List.mem_singleton.1 hc]; exact mR bb el.mem)
      have w2 : PW (h.n + 1 + 1) h3 B { x with due := rest, tasks := x.tasks.set k' ⟨2, 0, noSpan, td.trace, td.id, [], x.deeds.length⟩ } { V with v6 := u2 } F2 := w2
      have mv2 := mv1.trans (Mv.of kk2 (by omega) fun c hc => (m2 c hc).elim .inl fun q => absurd q List.not_mem_nil)
      have bt3 := bk_kp1 k3 bt2 (by simp; omega)
      have b3 := bk_kp1 k3 b2 (by simpa using hbbb)
      have bx3 := bk_kp1 k3 bx2 (by simp; omega)
      have r10w : SlRep h3 V.v10 x.deeds F2.f10 := w2.r10
      clear el el3 b2 bt2 bx2
      have ltx := Cel.lt r0'
      have rx3 := rep_kp k3 (rep_kp k2 (rep_ext r0' e) fun c hc hm => by have := ltx c hc; have := List.mem_singleton.1 hm; omega) fun c hc hm => by have := ltx c hc; have := List.mem_singleton.1 hm; omega
      (repeat' first|refine vs ?_|(refine br ?_ ?_<;>intro _<;>try(exfalso;first|omega|contradiction))|((with_reducible refine g_idx ?_);((first|refine ix ?_|refine ixi ?_|(refine ixg ?_;intro _ _)|(refine ixgi ?_;intro _ _));first|rintro _ _ _ _ _ ⟨rfl,rfl⟩ _|rintro _ _ _ _ _ ⟨_,rfl,_⟩ _|rintro _ _ _ _ _ ⟨_,_,_,_,rfl,rfl,_,_⟩ _|intro _ _ _ _ _ _ _))|(refine sx ?_;intro _ _)|((with_reducible refine g_awp ?_);simp only [g0,g1,g2]))
      refine aw_rcall (s_impl_TimeOf rx3) ?_
      (repeat' first|refine vs ?_|(refine br ?_ ?_<;>intro _<;>try(exfalso;first|omega|contradiction))|((with_reducible refine g_idx ?_);((first|refine ix ?_|refine ixi ?_|(refine ixg ?_;intro _ _)|(refine ixgi ?_;intro _ _));first|rintro _ _ _ _ _ ⟨rfl,rfl⟩ _|rintro _ _ _ _ _ ⟨_,rfl,_⟩ _|rintro _ _ _ _ _ ⟨_,_,_,_,rfl,rfl,_,_⟩ _|intro _ _ _ _ _ _ _))|(refine sx ?_;intro _ _)|((with_reducible refine g_awp ?_);simp only [g0,g1,g2]))
      refine w2.app10 (a := ⟨2, k', noSpan, td.trace, td.id, 0, false, false, 0, 0, 0, x.w.now, x.time, -1, -1⟩) (G := []) ⟨.nils, rfl, SlRep.nils⟩ Own.nil (by simp) (by omega) ?_ ?_ ?_
      · show (x.deeds.length + 1) * 168 ≤ _
        omega
      · show x.deeds.length + 1 < _
        omega
      intro v4 h4 f4 k4 bk4 c4 fin4
      have bk4 : Bk h4 B [AV.int .i64 x.c.stripes, AV.int .i64 x.c.wait, AV.int .i64 x.c.budget, AV.int .i64 x.c.cache, AV.int .i64 x.c.queue, AV.int .i64 x.c.rate, AV.int .i64 x.c.burst, AV.int .i64 x.c.rule.kind, AV.int .i64 x.c.rule.n, AV.str x.c.rule.key, AV.str x.c.rule.text, V.v0, AV.int .i64 x.time, AV.bool x.shut, V.v1, AV.int .i64 x.ruleHeld, AV.int .i64 x.b.rate, AV.int .i64 x.b.burst, AV.int .i64 x.b.tokens, AV.int .i64 x.b.at_, V.v2, AV.int .i64 x.used, AV.int .i64 x.w.now, V.v3, V.v4, V.v5, u2, V.v7, V.v8, V.v9, V.v10, AV.int .i64 x.next] 0 := bk4
      have hb4 := bk4.1
      have hF210 : ∀ c ∈ F2.f10, h.n + 1 + 1 ≤ c := fun c hc => (w2.l10.1.2 c hc).1
      have bz3 := bk_kp1 k4 (bk_kp1 k3 bz2 (by simp; omega)) fun hm => by have := hF210 _ hm; omega
      clear bx3 b3 bz2
      refine vs ?_
      refine aw_addw ?_
      refine vs ?_
      obtain ⟨F3, w3, m3, kk3⟩ := fin4 (h4.upd B ⟨_, 0, 0⟩) (bk_upd hb4) kp_upd
      have w3 : PW (h.n + 1 + 1) (h4.upd B ⟨_, 0, 0⟩) B { x with due := rest, tasks := x.tasks.set k' ⟨2, 0, noSpan, td.trace, td.id, [], x.deeds.length⟩, deeds := x.deeds ++ [⟨2, k', noSpan, td.trace, td.id, 0, false, false, 0, 0, 0, x.w.now, x.time, -1, -1⟩] } { V with v6 := u2, v10 := v4 } F3 := w3
      have w4 := w3.put (x' := { x with due := rest, tasks := x.tasks.set k' ⟨2, 0, noSpan, td.trace, td.id, [], x.deeds.length⟩, deeds := x.deeds ++ [⟨2, k', noSpan, td.trace, td.id, 0, false, false, 0, 0, 0, x.w.now, x.time, -1, -1⟩], time := wr (x.time + 1) }) (h' := (h4.upd B ⟨_, 0, 0⟩).upd B ⟨_, 0, 0⟩) (bk_upd (by simpa using hb4)) kp_upd
      have hne : h.n + 1 ≠ B := by omega
      refine ret_e w4 (bk_upd1 (bk_upd1 bz3 hne) hne) (Kp.ext e (Mv.kp (F' := F3) (mv2.trans (Mv.of (kk3.trans (kp_upd.mono fun c hc => by rw [List.mem_singleton.1 hc]; exact List.mem_cons_self)) (by omega) fun c hc => ?_))) fun c hc => ?_) (by omega)
      · rcases m3 c hc with q | q | q
        · exact .inl q
        · cases q
        · exact .inr (by omega)
      · rcases List.mem_cons.1 hc with q | q
        · omega
        · have := (w.own.1.2 c q).1; omega
    · rw [beginP_n fun c => hg ⟨by obtain ⟨t', ht', q⟩ := c.2.2.1; simp only [Int.toNat_natCast] at ht'; rw [ht] at ht'; cases ht'; exact q, List.length_pos_iff.2 c.2.2.2⟩]
      (repeat' first|refine vs ?_|(refine br ?_ ?_<;>intro _<;>try(exfalso;first|omega|contradiction))|((with_reducible refine g_callf n_impl_WorldOk ?_);(refine aw_rcall_b (s_impl_WorldOk (x := x) ok hs0 ⟨_, _, _, _, _, _, _, _, _, _, _, _, _, _, _, _, _, _, _, _, _, _, rfl, rfl, slr_auto, slr_auto, slr_auto, slr_auto, slr_auto, slr_auto, slr_auto, slr_auto, slr_auto, slr_auto, slr_auto⟩) ?_ ?_ <;> intro hn <;> first | replace hn := bp_true hn | replace hn := bp_false hn))|((with_reducible refine g_callf n_impl_within ?_);(refine aw_rcall_b (s_impl_within) ?_ ?_ <;> intro hb <;> (first | replace hb := inB_t hb | replace hb := inB_f hb)))|((with_reducible refine g_idx ?_);((first|refine ix ?_|refine ixi ?_|(refine ixg ?_;intro _ _)|(refine ixgi ?_;intro _ _));first|rintro _ _ _ _ _ ⟨rfl,rfl⟩ _|rintro _ _ _ _ _ ⟨_,rfl,_⟩ _|rintro _ _ _ _ _ ⟨_,_,_,_,rfl,rfl,_,_⟩ _|intro _ _ _ _ _ _ _))|(refine sx ?_;intro _ _)|((with_reducible refine g_awp ?_);simp only [g0,g1,g2]))
      all_goals first
        | (exfalso; first | omega | exact absurd hw.1 (by assumption))
        | exact ret_e w bz e (by omega)
  · rw [beginP_n fun c => hw ⟨c.1, c.2.1⟩]
    (repeat' first|refine vs ?_|(refine br ?_ ?_<;>intro _<;>try(exfalso;first|omega|contradiction))|((with_reducible refine g_callf n_impl_WorldOk ?_);(refine aw_rcall_b (s_impl_WorldOk (x := x) ok hs0 ⟨_, _, _, _, _, _, _, _, _, _, _, _, _, _, _, _, _, _, _, _, _, _, rfl, rfl, slr_auto, slr_auto, slr_auto, slr_auto, slr_auto, slr_auto, slr_auto, slr_auto, slr_auto, slr_auto, slr_auto⟩) ?_ ?_ <;> intro hn <;> first | replace hn := bp_true hn | replace hn := bp_false hn))|((with_reducible refine g_callf n_impl_within ?_);(refine aw_rcall_b (s_impl_within) ?_ ?_ <;> intro hb <;> (first | replace hb := inB_t hb | replace hb := inB_f hb)))|((with_reducible refine g_idx ?_);((first|refine ix ?_|refine ixi ?_|(refine ixg ?_;intro _ _)|(refine ixgi ?_;intro _ _));first|rintro _ _ _ _ _ ⟨rfl,rfl⟩ _|rintro _ _ _ _ _ ⟨_,rfl,_⟩ _|rintro _ _ _ _ _ ⟨_,_,_,_,rfl,rfl,_,_⟩ _|intro _ _ _ _ _ _ _))|(refine sx ?_;intro _ _)|((with_reducible refine g_awp ?_);simp only [g0,g1,g2]))
    all_goals first
      | exact absurd ⟨by assumption, by omega⟩ hw
      | exact ret_e w bz e (by omega)
end Go.Proofs.YtjnekdbdmoibgaaGreat
