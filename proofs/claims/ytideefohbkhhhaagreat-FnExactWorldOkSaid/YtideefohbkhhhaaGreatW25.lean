
/- Worlds: the stamps, and what is due. -/
import Derived.Test.YtideefohbkhhhaaGreatW22
set_option linter.unusedSimpArgs false
set_option linter.unusedVariables false
set_option maxHeartbeats 8000000
namespace Go.Proofs.YtideefohbkhhhaaGreat
open Go Go.Ab
section
/- spec.l16Known -/
def p_spec_l16Known (x0 x1 x2 : AV) : Prog := .op (.box x0) fun v1 => .op (.fad 22 v1) fun v2 => .op (.ldn 4 v2) fun v3 => .op (.fad 26 v1) fun v4 => .op (.ld1 v4) fun v5 => .op (.call n_spec_Timers [v3]) fun v6 => .chk (.ld1 v4) v5 (.op (.app 3 24 v6 v5) fun v7 => .loop [AV.int .i64 0] (fun vs8 => .op (.len 0 v7) fun v10 => .op (.bin 0 .lss (g vs8 0) v10) fun v11 => .ite v11 (.op (.idx 3 v7 (g vs8 0)) fun v12 => .op (.fad 0 v12) fun v13 => .op (.ld1 v13) fun v14 => .op (.bin 0 .eql v14 x2) fun v15 => .gop v15 true (.mv v7) fun v16 => .gop v15 true (.mv (g vs8 0)) fun v17 => .gop v15 true (.idx 3 v16 v17) fun v18 => .gop v15 true (.fad 1 v18) fun v19 => .gop v15 true (.ld1 v19) fun v20 => .gop v15 true (.mv x1) fun v21 => .gop v15 true (.bin 0 .eql v20 v21) fun v22 => .op (.pick v15 v22 (AV.bool false)) fun v23 => .ite v23 (.fin [.val (AV.bool true)]) (.op (.bin 0 .add (g vs8 0) (AV.int .i64 1)) fun v24 => .leaf 0 [v24])) (.leaf 2 [g vs8 0])) fun t9 vs8 => tsel t9 1 (.leaf 1 vs8) (tsel t9 2 (.loop [AV.int .i64 0] (fun vs25 => .op (.fad 29 v1) fun v27 => .op (.ld1 v27) fun v28 => .op (.len 0 v28) fun v29 => .op (.bin 0 .lss (g vs25 0) v29) fun v30 => .ite v30 (.op (.fad 29 v1) fun v31 => .op (.ld1 v31) fun v32 => .op (.idx 12 v32 (g vs25 0)) fun v33 => .op (.fad 0 v33) fun v34 => .op (.ld1 v34) fun v35 => .op (.bin 0 .eql v35 (AV.int .i64 2)) fun v36 => .gop v36 true (.fad 29 v1) fun v37 => .gop v36 true (.ld1 v37) fun v38 => .gop v36 true (.mv (g vs25 0)) fun v39 => .gop v36 true (.idx 12 v38 v39) fun v40 => .gop v36 true (.fad 1 v40) fun v41 => .gop v36 true (.ld1 v41) fun v42 => .gop v36 true (.bin 0 .neq v42 (AV.int .i64 3)) fun v43 => .op (.pick v36 v43 (AV.bool false)) fun v44 => .gop v44 true (.fad 29 v1) fun v45 => .gop v44 true (.ld1 v45) fun v46 => .gop v44 true (.mv (g vs25 0)) fun v47 => .gop v44 true (.idx 12 v46 v47) fun v48 => .gop v44 true (.fad 9 v48) fun v49 => .gop v44 true (.ld1 v49) fun v50 => .gop v44 true (.mv x2) fun v51 => .gop v44 true (.bin 0 .eql v50 v51) fun v52 => .op (.pick v44 v52 (AV.bool false)) fun v53 => .gop v53 true (.fad 29 v1) fun v54 => .gop v53 true (.ld1 v54) fun v55 => .gop v53 true (.mv (g vs25 0)) fun v56 => .gop v53 true (.idx 12 v55 v56) fun v57 => .gop v53 true (.fad 8 v57) fun v58 => .gop v53 true (.ld1 v58) fun v59 => .gop v53 true (.mv x1) fun v60 => .gop v53 true (.bin 0 .eql v59 v60) fun v61 => .op (.pick v53 v61 (AV.bool false)) fun v62 => .ite v62 (.fin [.val (AV.bool true)]) (.op (.bin 0 .add (g vs25 0) (AV.int .i64 1)) fun v63 => .leaf 0 [v63])) (.leaf 4 [g vs25 0])) fun t26 vs25 => tsel t26 1 (.leaf 1 vs25) (tsel t26 4 (.fin [.val (AV.bool false)]) .bad)) .bad))
theorem c_spec_l16Known (x0 x1 x2 : AV) : CC Tryz.prog n_spec_l16Known [x0, x1, x2] (p_spec_l16Known x0 x1 x2) := cc Tryz.func126 [1, 2, 3, 7, 8, 9] (fun r => if r = 1 then [(0, []), (1, []), (3, []), (4, []), (2, [4]), (5, []), (6, [])] else []) (by kernel_rfl)
/- spec.l16Stamps -/
abbrev q_spec_l16Stamps_1 (v24 : AV) (v23 : AV) (v1 : AV) (vs8 : List AV) : Prog := .op (.st 4 v24 v23) fun v25 => .op (.fad 1 v24) fun v26 => .op (.ld1 v26) fun v27 => .op (.fad 31 v1) fun v28 => .op (.ld1 v28) fun v29 => .op (.bin 0 .geq v27 v29) fun v30 => .gop v30 false (.ldn 32 v1) fun v31 => .gop v30 false (.fad 0 v24) fun v32 => .gop v30 false (.ld1 v32) fun v33 => .gop v30 false (.fad 1 v24) fun v34 => .gop v30 false (.ld1 v34) fun v35 => .gop v30 false (.call n_spec_l16Known [v31, v33, v35]) fun v36 => .gop v30 false (.una .not v36) fun v37 => .op (.pick v30 (AV.bool true) v37) fun v38 => .ite v38 (.fin [.val (AV.bool false)]) (.op (.bin 0 .add (g vs8 0) (AV.int .i64 1)) fun v39 => .leaf 0 [v39])
abbrev q_spec_l16Stamps_2 (v73 : AV) (v76 : AV) (vs62 : List AV) : Prog := .gop v73 false (.fad 1 v76) fun v77 => .gop v73 false (.ld1 v77) fun v78 => .gop v73 false (.call n_spec_l1In [v78, AV.int .i64 1, AV.int .i64 999]) fun v79 => .gop v73 false (.una .not v79) fun v80 => .op (.pick v73 (AV.bool true) v80) fun v81 => .ite v81 (.fin [.val (AV.bool false)]) (.op (.bin 0 .add (g vs62 0) (AV.int .i64 1)) fun v82 => .leaf 0 [v82])
def p_spec_l16Stamps (x0 : AV) : Prog := .op (.box x0) fun v1 => .loop [AV.int .i64 0, .tup []] (fun vs2 => .op (.fad 14 v1) fun v4 => .op (.ld1 v4) fun v5 => .op (.len 0 v5) fun v6 => .op (.bin 0 .lss (g vs2 0) v6) fun v7 => .ite v7 (.loop [AV.int .i64 0] (fun vs8 => .op (.fad 14 v1) fun v10 => .op (.ld1 v10) fun v11 => .op (.idx 2 v11 (g vs2 0)) fun v12 => .op (.fad 1 v12) fun v13 => .op (.ld1 v13) fun v14 => .op (.len 0 v14) fun v15 => .op (.bin 0 .lss (g vs8 0) v15) fun v16 => .ite v16 (.op (.fad 14 v1) fun v17 => .op (.ld1 v17) fun v18 => .op (.idx 2 v18 (g vs2 0)) fun v19 => .op (.fad 1 v19) fun v20 => .op (.ld1 v20) fun v21 => .op (.idx 4 v21 (g vs8 0)) fun v22 => .op (.ldn 4 v22) fun v23 => .op (.alloc [AV.int .i64 0, AV.int .i64 0, AV.int .i64 0, AV.nils]) fun v24 => q_spec_l16Stamps_1 v24 v23 v1 vs8) (.leaf 4 [g vs8 0])) fun t9 vs8 => tsel t9 1 (.leaf 1 vs8) (tsel t9 4 (.op (.bin 0 .add (g vs2 0) (AV.int .i64 1)) fun v40 => .leaf 0 [v40, g vs8 0]) .bad)) (.leaf 2 [g vs2 0, g vs2 1])) fun t3 vs2 => tsel t3 1 (.leaf 1 vs2) (tsel t3 2 (.loop [AV.int .i64 0] (fun vs41 => .op (.fad 20 v1) fun v43 => .op (.ld1 v43) fun v44 => .op (.len 0 v44) fun v45 => .op (.bin 0 .lss (g vs41 0) v45) fun v46 => .ite v46 (.op (.fad 20 v1) fun v47 => .op (.ld1 v47) fun v48 => .op (.idx 3 v48 (g vs41 0)) fun v49 => .op (.fad 1 v49) fun v50 => .op (.ld1 v50) fun v51 => .op (.fad 31 v1) fun v52 => .op (.ld1 v52) fun v53 => .op (.bin 0 .geq v51 v53) fun v54 => .ite v54 (.fin [.val (AV.bool false)]) (.op (.bin 0 .add (g vs41 0) (AV.int .i64 1)) fun v55 => .leaf 0 [v55])) (.leaf 6 [g vs41 0])) fun t42 vs41 => tsel t42 1 (.leaf 1 vs41) (tsel t42 6 (.op (.fad 22 v1) fun v56 => .op (.ldn 4 v56) fun v57 => .op (.fad 26 v1) fun v58 => .op (.ld1 v58) fun v59 => .op (.call n_spec_Timers [v57]) fun v60 => .chk (.ld1 v58) v59 (.op (.app 3 24 v60 v59) fun v61 => .loop [AV.int .i64 0] (fun vs62 => .op (.len 0 v61) fun v64 => .op (.bin 0 .lss (g vs62 0) v64) fun v65 => .ite v65 (.op (.idx 3 v61 (g vs62 0)) fun v66 => .op (.fad 0 v66) fun v67 => .op (.ld1 v67) fun v68 => .op (.fad 31 v1) fun v69 => .op (.ld1 v69) fun v70 => .op (.bin 0 .sub v70 (AV.int .i64 1)) fun v71 => .op (.call n_spec_l1In [v68, AV.int .i64 1, v71]) fun v72 => .op (.una .not v72) fun v73 => .gop v73 false (.mv v61) fun v74 => .gop v73 false (.mv (g vs62 0)) fun v75 => .gop v73 false (.idx 3 v74 v75) fun v76 => q_spec_l16Stamps_2 v73 v76 vs62) (.leaf 8 [g vs62 0])) fun t63 vs62 => tsel t63 1 (.leaf 1 vs62) (tsel t63 8 (.fin [.val (AV.bool true)]) .bad))) .bad)) .bad)
theorem c_spec_l16Stamps (x0 : AV) : CC Tryz.prog n_spec_l16Stamps [x0] (p_spec_l16Stamps x0) := cc Tryz.func53 [1, 3, 4, 6, 7, 8] (fun r => if r = 13 then [(0, []), (1, []), (2, []), (3, []), (4, []), (5, []), (6, []), (7, []), (8, [])] else if r = 15 then [(0, []), (1, []), (3, []), (4, []), (2, [4]), (5, []), (6, [])] else if r = 19 then [(0, []), (1, []), (2, []), (3, []), (4, []), (5, []), (6, []), (7, []), (8, []), (9, []), (10, []), (11, []), (12, []), (13, []), (14, []), (15, []), (16, []), (17, []), (18, [])] else []) (by kernel_rfl)
end
def allTm (x : Wld) : List Ab.Timer := timers x.w ++ x.due
def isJ (id stamp : Int) (t : Task) : Prop := t.op = 2 ∧ t.pc ≠ 3 ∧ t.stamp = stamp ∧ t.trace = id
def known (x : Wld) (id stamp : Int) : Prop := (∃ t ∈ allTm x, t.id = stamp ∧ t.trace = id) ∨ ∃ t ∈ x.tasks, isJ id stamp t
theorem timers_b (w : Wheel) : (timers w).length ≤ Sz.sz w := by
  have h0 := flat_b w.near
  have h1 := flat_b w.far
  have hsz : Sz.sz w = (w.near.length + szs w.near) + (w.far.length + szs w.far) + (w.rest.length + szs w.rest) := rfl
  unfold timers
  simp only [List.length_append]; omega
theorem upNo {α : Type} {l : List α} {p : α → Prop} (h : ∀ y ∈ l, ¬ p y) : ¬ ∃ y ∈ l, p y := fun ⟨y, hy, hp⟩ => h y hy hp
theorem s_spec_l16Known {h : AH} {x : Wld} {cs : List AV} {F : List Nat} {id stamp : Int} (hs : Sz.sz x ≤ 67108864) (r : Cel.rep h x cs F) :
    RCalls Tryz.prog n_spec_l16Known [.agg cs, .int .i64 id, .int .i64 stamp] h (.bool (bp (known x id stamp))) := by
  obtain ⟨v0, v1, v2, v3, v4, v5, v6, v7, v8, v9, v10, F0, F1, F2, F3, F4, F5, F6, F7, F8, F9, F10, rfl, rfl, r0, r1, r2, r3, r4, r5, r6, r7, r8, r9, r10⟩ := r
  have hs : Sz.sz x.c + (x.st.length + szs x.st) + (x.cache.length + szs x.cache) + Sz.sz x.w + (x.due.length + szs x.due) + (x.queue.length + szs x.queue) + (x.out.length + szs x.out) + (x.tasks.length + szs x.tasks) + (x.deeds.length + szs x.deeds) ≤ 67108864 := hs
  have hl9 := r9.small
  have htb := timers_b x.w
  refine reader (c_spec_l16Known _ _ _) (by simp only [old]) ?_
  unfold p_spec_l16Known
  (repeat' first|refine vs ?_|(refine br ?_ ?_<;>intro _<;>try(exfalso;first|omega|contradiction))|((with_reducible refine g_idx ?_);((first|refine ix ?_|refine ixi ?_|(refine ixg ?_;intro _ _)|(refine ixgi ?_;intro _ _));first|rintro _ _ _ _ _ ⟨rfl,rfl⟩ _|rintro _ _ _ _ _ ⟨_,rfl,_⟩ _|rintro _ _ _ _ _ ⟨_,_,_,_,rfl,rfl,_,_⟩ _|intro _ _ _ _ _ _ _))|(refine sx ?_;intro _ _)|((with_reducible refine g_awp ?_);simp only [g0,g1,g2]))
  refine aw_call (s_spec_Timers (w := x.w) om_auto slr_auto slr_auto slr_auto) ?_
  rintro u h1 ⟨e1, G1, q1, o1⟩
  have n1 := e1.1
  simp only [push_n] at n1 o1
  refine vs ?_
  refine app2F (n := h.n + 1) (xs := timers x.w) (ys := x.due) (Fx := G1) q1 (slr_auto : SlRep _ v6 x.due F6) o1 om_auto rfl (by omega) (by omega) ?_
  intro v h2 G2 ek kp q2 o2
  have e2 := ek _ e1 (by simp)
  have n2 := e2.1
  simp only [push_n] at n2
  have hlen : (timers x.w ++ x.due).length = (timers x.w).length + x.due.length := by simp
  clear ek kp
  refine aw_upto (timers x.w ++ x.due).length (fun i vs h3 => vs = [.int .i64 (i : Int)] ∧ i ≤ (timers x.w ++ x.due).length ∧ h3 = h2 ∧ Upto (timers x.w ++ x.due) (fun _ t => ¬ (t.id = stamp ∧ t.trace = id)) i) ⟨rfl, Nat.zero_le _, rfl, up0⟩ ?_
  rintro i vs h3 _ ⟨rfl, hi, rfl, hu⟩
  simp only [g0]
  refine vs ?_
  refine br (fun hlt => ?_) (fun hge => ?_)
  · obtain ⟨t, ht, -, -⟩ := drop_step (show i < (timers x.w ++ x.due).length by omega)
    (repeat' first|refine vs ?_|(refine br ?_ ?_<;>intro _<;>try(exfalso;first|omega|contradiction))|((with_reducible refine g_idx ?_);((first|refine ix ?_|refine ixi ?_|(refine ixg ?_;intro _ _)|(refine ixgi ?_;intro _ _));first|rintro _ _ _ _ _ ⟨rfl,rfl⟩ _|rintro _ _ _ _ _ ⟨_,rfl,_⟩ _|rintro _ _ _ _ _ ⟨_,_,_,_,rfl,rfl,_,_⟩ _|intro _ _ _ _ _ _ _))|(refine sx ?_;intro _ _)|((with_reducible refine g_awp ?_);simp only [g0,g1,g2]))
    all_goals first
      | exact pt (.inl ⟨t, List.mem_of_getElem? ht, by omega, by omega⟩)
      | exact ⟨by omega, rfl, by omega, rfl, upS hu ht (by omega)⟩
  rw [show i = (timers x.w ++ x.due).length by omega] at hu
  have hu := upAll hu
  (repeat' first|refine vs ?_|(refine br ?_ ?_<;>intro _<;>try(exfalso;first|omega|contradiction))|((with_reducible refine g_idx ?_);((first|refine ix ?_|refine ixi ?_|(refine ixg ?_;intro _ _)|(refine ixgi ?_;intro _ _));first|rintro _ _ _ _ _ ⟨rfl,rfl⟩ _|rintro _ _ _ _ _ ⟨_,rfl,_⟩ _|rintro _ _ _ _ _ ⟨_,_,_,_,rfl,rfl,_,_⟩ _|intro _ _ _ _ _ _ _))|(refine sx ?_;intro _ _)|((with_reducible refine g_awp ?_);simp only [g0,g1,g2]))
  refine aw_upto x.tasks.length (fun i vs h4 => vs = [.int .i64 (i : Int)] ∧ i ≤ x.tasks.length ∧ h4 = h3 ∧ Upto x.tasks (fun _ t => ¬ isJ id stamp t) i) ⟨rfl, Nat.zero_le _, rfl, up0⟩ ?_
  clear hi hge
  rintro i vs h4 _ ⟨rfl, hi, rfl, hu2⟩
  simp only [g0]
  refine vs ?_
  refine br (fun hlt => ?_) (fun hge => ?_)
  · obtain ⟨t, ht, -, -⟩ := drop_step (show i < x.tasks.length by omega)
    (repeat' first|refine vs ?_|(refine br ?_ ?_<;>intro _<;>try(exfalso;first|omega|contradiction))|((with_reducible refine g_idx ?_);((first|refine ix ?_|refine ixi ?_|(refine ixg ?_;intro _ _)|(refine ixgi ?_;intro _ _));first|rintro _ _ _ _ _ ⟨rfl,rfl⟩ _|rintro _ _ _ _ _ ⟨_,rfl,_⟩ _|rintro _ _ _ _ _ ⟨_,_,_,_,rfl,rfl,_,_⟩ _|intro _ _ _ _ _ _ _))|(refine sx ?_;intro _ _)|((with_reducible refine g_awp ?_);simp only [g0,g1,g2]))
    all_goals first
      | exact pt (.inr ⟨t, List.mem_of_getElem? ht, by unfold isJ; omega⟩)
      | exact ⟨by omega, rfl, by omega, rfl, upS hu2 ht (by unfold isJ; omega)⟩
  rw [show i = x.tasks.length by omega] at hu2
  have hu2 := upAll hu2
  (repeat' first|refine vs ?_|(refine br ?_ ?_<;>intro _<;>try(exfalso;first|omega|contradiction))|((with_reducible refine g_idx ?_);((first|refine ix ?_|refine ixi ?_|(refine ixg ?_;intro _ _)|(refine ixgi ?_;intro _ _));first|rintro _ _ _ _ _ ⟨rfl,rfl⟩ _|rintro _ _ _ _ _ ⟨_,rfl,_⟩ _|rintro _ _ _ _ _ ⟨_,_,_,_,rfl,rfl,_,_⟩ _|intro _ _ _ _ _ _ _))|(refine sx ?_;intro _ _)|((with_reducible refine g_awp ?_);simp only [g0,g1,g2]))
  refine pf ?_
  rintro (k | k)
  · exact upNo hu k
  · exact upNo hu2 k

def stampsS (x : Wld) : Prop := (∀ (i : Nat) (s : Stripe), x.st[i]? = some s → ∀ t ∈ s.l, t.stamp < x.next ∧ known x t.id t.stamp) ∧ (∀ v ∈ x.cache, v.stamp < x.next) ∧ ∀ t ∈ allTm x, (1 ≤ t.id ∧ t.id ≤ x.next - 1) ∧ (1 ≤ t.trace ∧ t.trace ≤ 999)
theorem s_spec_l16Stamps {h : AH} {x : Wld} {cs : List AV} {F : List Nat} (hnx : 1 ≤ x.next) (ok : Cel.ok x) (hs : Sz.sz x ≤ 67108864) (r : Cel.rep h x cs F) :
    RCalls Tryz.prog n_spec_l16Stamps [.agg cs] h (.bool (bp (stampsS x))) := by
  have hs0 := hs
  obtain ⟨v0, v1, v2, v3, v4, v5, v6, v7, v8, v9, v10, F0, F1, F2, F3, F4, F5, F6, F7, F8, F9, F10, rfl, rfl, r0, r1, r2, r3, r4, r5, r6, r7, r8, r9, r10⟩ := r
  obtain ⟨ok_c, ok_time, ok_st, ok_ruleHeld, ok_b, ok_cache, ok_used, ok_w, ok_due, ok_queue, ok_out, ok_tasks, ok_deeds, ok_next⟩ := ok
  have hs : Sz.sz x.c + (x.st.length + szs x.st) + (x.cache.length + szs x.cache) + Sz.sz x.w + (x.due.length + szs x.due) + (x.queue.length + szs x.queue) + (x.out.length + szs x.out) + (x.tasks.length + szs x.tasks) + (x.deeds.length + szs x.deeds) ≤ 67108864 := hs
  have ok_next : -9223372036854775808 ≤ x.next ∧ x.next ≤ 9223372036854775807 := ok_next
  have hl1 := r1.small
  have hl2 := r2.small
  have htb := timers_b x.w
  refine reader (c_spec_l16Stamps _) (by simp only [old]) ?_
  unfold p_spec_l16Stamps
  (repeat' first|refine vs ?_|(refine br ?_ ?_<;>intro _<;>try(exfalso;first|omega|contradiction))|((with_reducible refine g_idx ?_);((first|refine ix ?_|refine ixi ?_|(refine ixg ?_;intro _ _)|(refine ixgi ?_;intro _ _));first|rintro _ _ _ _ _ ⟨rfl,rfl⟩ _|rintro _ _ _ _ _ ⟨_,rfl,_⟩ _|rintro _ _ _ _ _ ⟨_,_,_,_,rfl,rfl,_,_⟩ _|intro _ _ _ _ _ _ _))|(refine sx ?_;intro _ _)|((with_reducible refine g_awp ?_);simp only [g0,g1,g2]))
  refine aw_upto x.st.length (fun i vs h1 => ∃ z, vs = [.int .i64 (i : Int), z] ∧ i ≤ x.st.length ∧ Ext (h.push ⟨(x.cs v0 v1 v2 v3 v4 v5 v6 v7 v8 v9 v10), 0, 0⟩) h1 ∧ Upto x.st (fun _ s => ∀ t ∈ s.l, t.stamp < x.next ∧ known x t.id t.stamp) i) ⟨_, rfl, Nat.zero_le _, ext_auto, up0⟩ ?_
  rintro i vs h1 _ ⟨z, rfl, hi, e1, hu⟩
  simp only [g0, g1]
  refine vs ?_
  refine br (fun hlt => ?_) (fun hge => ?_)
  · obtain ⟨s, hx, -, -⟩ := drop_step (show i < x.st.length by omega)
    have hm := szs_mem (List.mem_of_getElem? hx)
    have hx2 : Sz.sz s = s.l.length + szs s.l := rfl
    refine vs ?_
    refine aw_upto s.l.length (fun k vs h2 => vs = [.int .i64 (k : Int)] ∧ k ≤ s.l.length ∧ Ext h1 h2 ∧ Upto s.l (fun _ t => t.stamp < x.next ∧ known x t.id t.stamp) k) ⟨rfl, Nat.zero_le _, Ext.refl _, up0⟩ ?_
    rintro k vs h2 _ ⟨rfl, hk, e2, hu2⟩
    simp only [g0]
    refine vs ?_
    refine aw_idx r1 hx rfl ?_
    rintro b o _ Fi a ⟨vs1, rfl, rs⟩ _
    refine vs ?_
    refine br (fun hlt2 => ?_) (fun hge2 => ?_)
    · obtain ⟨t, ht, -, -⟩ := drop_step (show k < s.l.length by omega)
      (repeat' first|refine vs ?_|(refine br ?_ ?_<;>intro _<;>try(exfalso;first|omega|contradiction))|((with_reducible refine g_callf n_spec_l16Known ?_);(refine aw_rcall_b (s_spec_l16Known (x := x) hs0 ⟨_, _, _, _, _, _, _, _, _, _, _, _, _, _, _, _, _, _, _, _, _, _, rfl, rfl, slr_auto, slr_auto, slr_auto, slr_auto, slr_auto, slr_auto, slr_auto, slr_auto, slr_auto, slr_auto, slr_auto⟩) ?_ ?_ <;> intro hn <;> first | replace hn := bp_true hn | replace hn := bp_false hn))|((with_reducible refine g_idx ?_);((first|refine ix ?_|refine ixi ?_|(refine ixg ?_;intro _ _)|(refine ixgi ?_;intro _ _));first|rintro _ _ _ _ _ ⟨rfl,rfl⟩ _|rintro _ _ _ _ _ ⟨_,rfl,_⟩ _|rintro _ _ _ _ _ ⟨_,_,_,_,rfl,rfl,_,_⟩ _|intro _ _ _ _ _ _ _))|(refine sx ?_;intro _ _)|((with_reducible refine g_awp ?_);simp only [g0,g1,g2]))
      all_goals first
        | (refine pf fun kk => ?_; have kk := kk.1 i s hx t (List.mem_of_getElem? ht); first | omega | exact absurd kk.2 (by assumption))
        | exact ⟨by omega, rfl, by omega, ext_auto, upS hu2 ht ⟨by omega, by assumption⟩⟩
    · rw [show k = s.l.length by omega] at hu2
      have hu2 := upAll hu2
      (repeat' first|refine vs ?_|(refine br ?_ ?_<;>intro _<;>try(exfalso;first|omega|contradiction))|((with_reducible refine g_idx ?_);((first|refine ix ?_|refine ixi ?_|(refine ixg ?_;intro _ _)|(refine ixgi ?_;intro _ _));first|rintro _ _ _ _ _ ⟨rfl,rfl⟩ _|rintro _ _ _ _ _ ⟨_,rfl,_⟩ _|rintro _ _ _ _ _ ⟨_,_,_,_,rfl,rfl,_,_⟩ _|intro _ _ _ _ _ _ _))|(refine sx ?_;intro _ _)|((with_reducible refine g_awp ?_);simp only [g0,g1,g2]))
      exact ⟨by omega, _, rfl, by omega, ext_auto, upS hu hx hu2⟩
  rw [show i = x.st.length by omega] at hu
  have hA := upEnd hu
  clear hu hi hge
  (repeat' first|refine vs ?_|(refine br ?_ ?_<;>intro _<;>try(exfalso;first|omega|contradiction))|((with_reducible refine g_idx ?_);((first|refine ix ?_|refine ixi ?_|(refine ixg ?_;intro _ _)|(refine ixgi ?_;intro _ _));first|rintro _ _ _ _ _ ⟨rfl,rfl⟩ _|rintro _ _ _ _ _ ⟨_,rfl,_⟩ _|rintro _ _ _ _ _ ⟨_,_,_,_,rfl,rfl,_,_⟩ _|intro _ _ _ _ _ _ _))|(refine sx ?_;intro _ _)|((with_reducible refine g_awp ?_);simp only [g0,g1,g2]))
  refine aw_upto x.cache.length (fun i vs h2 => vs = [.int .i64 (i : Int)] ∧ i ≤ x.cache.length ∧ h2 = h1 ∧ Upto x.cache (fun _ v => v.stamp < x.next) i) ⟨rfl, Nat.zero_le _, rfl, up0⟩ ?_
  rintro i vs h2 _ ⟨rfl, hi, rfl, hu⟩
  simp only [g0]
  refine vs ?_
  refine br (fun hlt => ?_) (fun hge => ?_)
  · obtain ⟨t, ht, -, -⟩ := drop_step (show i < x.cache.length by omega)
    (repeat' first|refine vs ?_|(refine br ?_ ?_<;>intro _<;>try(exfalso;first|omega|contradiction))|((with_reducible refine g_idx ?_);((first|refine ix ?_|refine ixi ?_|(refine ixg ?_;intro _ _)|(refine ixgi ?_;intro _ _));first|rintro _ _ _ _ _ ⟨rfl,rfl⟩ _|rintro _ _ _ _ _ ⟨_,rfl,_⟩ _|rintro _ _ _ _ _ ⟨_,_,_,_,rfl,rfl,_,_⟩ _|intro _ _ _ _ _ _ _))|(refine sx ?_;intro _ _)|((with_reducible refine g_awp ?_);simp only [g0,g1,g2]))
    all_goals first
      | (refine pf fun kk => ?_; have kk := kk.2.1 t (List.mem_of_getElem? ht); omega)
      | exact ⟨by omega, rfl, by omega, rfl, upS hu ht (by omega)⟩
  rw [show i = x.cache.length by omega] at hu
  have hB := upAll hu
  clear hu hi hge
  (repeat' first|refine vs ?_|(refine br ?_ ?_<;>intro _<;>try(exfalso;first|omega|contradiction))|((with_reducible refine g_idx ?_);((first|refine ix ?_|refine ixi ?_|(refine ixg ?_;intro _ _)|(refine ixgi ?_;intro _ _));first|rintro _ _ _ _ _ ⟨rfl,rfl⟩ _|rintro _ _ _ _ _ ⟨_,rfl,_⟩ _|rintro _ _ _ _ _ ⟨_,_,_,_,rfl,rfl,_,_⟩ _|intro _ _ _ _ _ _ _))|(refine sx ?_;intro _ _)|((with_reducible refine g_awp ?_);simp only [g0,g1,g2]))
  refine aw_call (s_spec_Timers (w := x.w) om_auto slr_auto slr_auto slr_auto) ?_
  rintro u h3 ⟨e3, G1, q1, o1⟩
  have n1 := e1.1
  have n3 := e3.1
  simp only [push_n] at n1
  refine vs ?_
  refine app2F (n := h.n + 1) (xs := timers x.w) (ys := x.due) (Fx := G1) q1 (slr_auto : SlRep _ v6 x.due F6) (o1.mono (by omega) fun _ _ => rfl) om_auto rfl (by omega) (by omega) ?_
  intro v h4 G2 ek kp q2 o2
  have e4 := ek _ (ext_auto : Ext (h.push ⟨(x.cs v0 v1 v2 v3 v4 v5 v6 v7 v8 v9 v10), 0, 0⟩) h3) (by simp)
  have n4 := e4.1
  simp only [push_n] at n4
  have hlen : (timers x.w ++ x.due).length = (timers x.w).length + x.due.length := by simp
  clear ek kp
  refine aw_upto (timers x.w ++ x.due).length (fun i vs h5 => vs = [.int .i64 (i : Int)] ∧ i ≤ (timers x.w ++ x.due).length ∧ h5 = h4 ∧ Upto (timers x.w ++ x.due) (fun _ t => (1 ≤ t.id ∧ t.id ≤ x.next - 1) ∧ (1 ≤ t.trace ∧ t.trace ≤ 999)) i) ⟨rfl, Nat.zero_le _, rfl, up0⟩ ?_
  rintro i vs h5 _ ⟨rfl, hi, rfl, hu⟩
  simp only [g0]
  refine vs ?_
  refine br (fun hlt => ?_) (fun hge => ?_)
  · obtain ⟨t, ht, -, -⟩ := drop_step (show i < (timers x.w ++ x.due).length by omega)
    (repeat' first|refine vs ?_|(refine br ?_ ?_<;>intro _<;>try(exfalso;first|omega|contradiction))|((with_reducible refine g_callf n_spec_l1In ?_);(refine aw_rcall_b (s_spec_l1In) ?_ ?_ <;> intro hb <;> (first | replace hb := inB_t hb | replace hb := inB_f hb)))|((with_reducible refine g_idx ?_);((first|refine ix ?_|refine ixi ?_|(refine ixg ?_;intro _ _)|(refine ixgi ?_;intro _ _));first|rintro _ _ _ _ _ ⟨rfl,rfl⟩ _|rintro _ _ _ _ _ ⟨_,rfl,_⟩ _|rintro _ _ _ _ _ ⟨_,_,_,_,rfl,rfl,_,_⟩ _|intro _ _ _ _ _ _ _))|(refine sx ?_;intro _ _)|((with_reducible refine g_awp ?_);simp only [g0,g1,g2]))
    all_goals first
      | (refine pf fun kk => ?_; have kk := kk.2.2 t (List.mem_of_getElem? ht); omega)
      | exact ⟨by omega, rfl, by omega, rfl, upS hu ht (by omega)⟩
  rw [show i = (timers x.w ++ x.due).length by omega] at hu
  have hC := upAll hu
  (repeat' first|refine vs ?_|(refine br ?_ ?_<;>intro _<;>try(exfalso;first|omega|contradiction))|((with_reducible refine g_idx ?_);((first|refine ix ?_|refine ixi ?_|(refine ixg ?_;intro _ _)|(refine ixgi ?_;intro _ _));first|rintro _ _ _ _ _ ⟨rfl,rfl⟩ _|rintro _ _ _ _ _ ⟨_,rfl,_⟩ _|rintro _ _ _ _ _ ⟨_,_,_,_,rfl,rfl,_,_⟩ _|intro _ _ _ _ _ _ _))|(refine sx ?_;intro _ _)|((with_reducible refine g_awp ?_);simp only [g0,g1,g2]))
  exact pt ⟨hA, hB, hC⟩
end Go.Proofs.YtideefohbkhhhaaGreat
