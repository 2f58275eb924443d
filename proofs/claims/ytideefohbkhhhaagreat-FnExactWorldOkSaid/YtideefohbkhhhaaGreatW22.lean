
/- Worlds: the tasks, their deeds and locks. -/
import Derived.Test.YtideefohbkhhhaaGreatW20
set_option linter.unusedSimpArgs false
set_option linter.unusedVariables false
set_option maxHeartbeats 8000000
namespace Go.Proofs.YtideefohbkhhhaaGreat
open Go Go.Ab
section
/- impl.tasksOk -/
def p_impl_tasksOk (x0 : AV) : Prog := .op (.box x0) fun v1 => .op (.fad 29 v1) fun v2 => .op (.ld1 v2) fun v3 => .op (.len 0 v3) fun v4 => .op (.bin 0 .neq v4 (AV.int .i64 5)) fun v5 => .ite v5 (.fin [.val (AV.bool false)]) (.op (.fad 14 v1) fun v6 => .op (.ld1 v6) fun v7 => .op (.len 0 v7) fun v8 => .op (.mksl 1 8 [AV.int .i64 0] v8 v8) fun v9 => .op (.len 0 v9) fun v10 => .loop [AV.int .i64 0] (fun vs11 => .op (.bin 0 .lss (g vs11 0) v10) fun v13 => .ite v13 (.op (.idx 1 v9 (g vs11 0)) fun v14 => .op (.st 1 v14 (AV.int .i64 (-1))) fun v15 => .op (.bin 0 .add (g vs11 0) (AV.int .i64 1)) fun v16 => .leaf 0 [v16]) (.leaf 2 [g vs11 0])) fun t12 vs11 => tsel t12 1 (.leaf 1 vs11) (tsel t12 2 (.op (.fad 29 v1) fun v17 => .op (.ld1 v17) fun v18 => .op (.len 0 v18) fun v19 => .loop [AV.int .i64 (-1), .tup [], .tup [], AV.int .i64 0] (fun vs20 => .op (.bin 0 .lss (g vs20 3) v19) fun v22 => .ite v22 (.op (.idx 12 v18 (g vs20 3)) fun v23 => .op (.ldn 12 v23) fun v24 => .op (.alloc z12_f83) fun v25 => .op (.st 12 v25 v24) fun v26 => .op (.ldn 12 v25) fun v27 => .op (.call n_impl_TaskOk [v27, g vs20 3]) fun v28 => .op (.una .not v28) fun v29 => .gop v29 false (.fad 0 v25) fun v30 => .gop v29 false (.ld1 v30) fun v31 => .gop v29 false (.bin 0 .neq v31 (AV.int .i64 0)) fun v32 => .gop v29 false (.mv v32) fun v33 => .gop v33 true (.ldn 32 v1) fun v34 => .gop v33 true (.mv (g vs20 3)) fun v35 => .gop v33 true (.call n_impl_deedOfTask [v34, v35]) fun v36 => .gop v33 true (.una .not v36) fun v37 => .gop v29 false (.pick v33 v37 (AV.bool false)) fun v38 => .op (.pick v29 (AV.bool true) v38) fun v39 => .ite v39 (.fin [.val (AV.bool false)]) (.op (.ldn 12 v25) fun v40 => .op (.fad 14 v1) fun v41 => .op (.ld1 v41) fun v42 => .op (.len 0 v42) fun v43 => .op (.call n_impl_HoldsStripe [v40, v43]) fun v44 => .op (.bin 0 .geq v44 (AV.int .i64 0)) fun v45 => .scope (.ite v45 (.op (.idx 1 v9 v44) fun v46 => .op (.ld1 v46) fun v47 => .op (.bin 0 .neq v47 (AV.int .i64 (-1))) fun v48 => .ite v48 (.fin [.val (AV.bool false)]) (.op (.idx 1 v9 v44) fun v49 => .op (.st 1 v49 (g vs20 3)) fun v50 => .leaf 0 [])) (.leaf 0 [])) (fun vs51 => .op (.ldn 12 v25) fun v53 => .op (.call n_impl_HoldsRule [v53]) fun v54 => .scope (.ite v54 (.op (.bin 0 .neq (g vs20 0) (AV.int .i64 (-1))) fun v55 => .ite v55 (.fin [.val (AV.bool false)]) (.leaf 0 [g vs20 3])) (.leaf 0 [g vs20 0])) (fun vs56 => .op (.bin 0 .add (g vs20 3) (AV.int .i64 1)) fun v58 => .leaf 0 [g vs56 0, g vs20 3, v25, v58]) fun t57 vs56 => tsel t57 1 (.leaf 1 vs56) .bad) fun t52 vs51 => tsel t52 1 (.leaf 1 vs51) .bad)) (.leaf 4 [g vs20 0, g vs20 1, g vs20 2, g vs20 3])) fun t21 vs20 => tsel t21 1 (.leaf 1 vs20) (tsel t21 4 (.op (.fad 14 v1) fun v59 => .op (.ld1 v59) fun v60 => .op (.len 0 v60) fun v61 => .loop [AV.int .i64 0] (fun vs62 => .op (.bin 0 .lss (g vs62 0) v61) fun v64 => .ite v64 (.op (.idx 2 v60 (g vs62 0)) fun v65 => .op (.ldn 2 v65) fun v66 => .op (.alloc [AV.int .i64 0, AV.nils]) fun v67 => .op (.st 2 v67 v66) fun v68 => .op (.fad 0 v67) fun v69 => .op (.ld1 v69) fun v70 => .op (.idx 1 v9 (g vs62 0)) fun v71 => .op (.ld1 v71) fun v72 => .op (.bin 0 .neq v70 v72) fun v73 => .ite v73 (.fin [.val (AV.bool false)]) (.op (.bin 0 .add (g vs62 0) (AV.int .i64 1)) fun v74 => .leaf 0 [v74])) (.leaf 6 [g vs62 0])) fun t63 vs62 => tsel t63 1 (.leaf 1 vs62) (tsel t63 6 (.op (.fad 15 v1) fun v75 => .op (.ld1 v75) fun v76 => .op (.bin 0 .eql v76 (g vs20 0)) fun v77 => .fin [.val v77]) .bad)) .bad)) .bad))
theorem c_impl_tasksOk (x0 : AV) : CC Tryz.prog n_impl_tasksOk [x0] (p_impl_tasksOk x0) := cc Tryz.func65 [1, 3, 5, 6, 7, 20, 21, 29, 30, 31, 74, 75, 76] (fun r => if r = 28 then [(0, []), (1, []), (2, []), (3, []), (4, []), (5, []), (6, [])] else []) (by kernel_rfl)
end
/-! ### Who holds which lock -/
def takeS (n : Nat) (hs : List Int) (k : Nat) (t : Task) : Option (List Int) := if 0 ≤ holdsStripe t n then (if hs[(holdsStripe t n).toNat]? = some (-1) then some (hs.set (holdsStripe t n).toNat (k : Int)) else none) else some hs
def takeR (r : Int) (k : Nat) (t : Task) : Option Int := if t.op = 2 ∧ t.pc = 2 then (if r = -1 then some (k : Int) else none) else some r
def lockStep (n : Nat) (s : List Int × Int) (k : Nat) (t : Task) : Option (List Int × Int) := match takeS n s.1 k t, takeR s.2 k t with
  | some a, some b => some (a, b)
  | _, _ => none
def locks (n : Nat) (l : List Task) : Nat → Option (List Int × Int)
  | 0 => some (List.replicate n (-1), -1)
  | k + 1 => match locks n l k, l[k]? with
    | some s, some t => lockStep n s k t
    | _, _ => none
theorem locks_s {n k : Nat} {l : List Task} {hs hs' : List Int} {r r' : Int} {t : Task} (h : locks n l k = some (hs, r)) (ht : l[k]? = some t) (a : takeS n hs k t = some hs') (b : takeR r k t = some r') : locks n l (k + 1) = some (hs', r') := by
  simp [locks, h, ht, lockStep, a, b]
theorem locks_f1 {n k : Nat} {l : List Task} {hs : List Int} {r : Int} {t : Task} (h : locks n l k = some (hs, r)) (ht : l[k]? = some t) (a : takeS n hs k t = none) : locks n l (k + 1) = none := by
  simp [locks, h, ht, lockStep, a]
theorem locks_f2 {n k : Nat} {l : List Task} {hs : List Int} {r : Int} {t : Task} (h : locks n l k = some (hs, r)) (ht : l[k]? = some t) (b : takeR r k t = none) : locks n l (k + 1) = none := by
  simp only [locks, h, ht, lockStep, b]
  cases takeS n hs k t <;> rfl
theorem locks_mono {n k : Nat} {l : List Task} (h : locks n l k = none) : ∀ {m : Nat}, k ≤ m → locks n l m = none
  | 0, hm => by have : k = 0 := by omega
                subst this; exact h
  | m + 1, hm => by
    by_cases e : k = m + 1
    · subst e; exact h
    · have := locks_mono h (m := m) (by omega)
      simp [locks, this]
theorem takeS_n {n k : Nat} {hs : List Int} {t : Task} (h : ¬ holdsStripe t n ≥ 0) : takeS n hs k t = some hs := by unfold takeS; rw [if_neg (by omega)]
theorem takeS_y {n k : Nat} {hs : List Int} {t : Task} {y : Int} (h : holdsStripe t n ≥ 0) (hy : hs[(holdsStripe t n).toNat]? = some y) (e : y = -1) : takeS n hs k t = some (hs.set (holdsStripe t n).toNat (k : Int)) := by
  subst e; unfold takeS; rw [if_pos (by omega), if_pos hy]
theorem takeS_f {n k : Nat} {hs : List Int} {t : Task} {y : Int} (h : holdsStripe t n ≥ 0) (hy : hs[(holdsStripe t n).toNat]? = some y) (e : ¬ y = -1) : takeS n hs k t = none := by
  unfold takeS; rw [if_pos (by omega), if_neg (by rw [hy]; simpa using e)]
theorem takeR_n {r : Int} {k : Nat} {t : Task} (h : ¬ (t.op = 2 ∧ t.pc = 2)) : takeR r k t = some r := by unfold takeR; rw [if_neg h]
theorem takeR_y {r : Int} {k : Nat} {t : Task} (h : t.op = 2 ∧ t.pc = 2) (e : r = -1) : takeR r k t = some (k : Int) := by unfold takeR; rw [if_pos h, if_pos e]
theorem takeR_f {r : Int} {k : Nat} {t : Task} (h : t.op = 2 ∧ t.pc = 2) (e : ¬ r = -1) : takeR r k t = none := by unfold takeR; rw [if_pos h, if_neg e]
theorem holds_b (t : Task) (n : Nat) : -1 ≤ holdsStripe t n ∧ (0 ≤ holdsStripe t n → holdsStripe t n < n) := by
  unfold holdsStripe
  by_cases hn : (n : Int) < 1
  · rw [if_pos hn]; omega
  · rw [if_neg hn]
    have h1 := stripe_b (t := t.s.trace) (n := n) (by omega)
    have h2 := stripe_b (t := t.trace) (n := n) (by omega)
    split
    · omega
    · split <;> omega
def taskD (x : Wld) (k : Nat) (t : Task) : Prop := taskOk t k ∧ (t.op ≠ 0 → deedT x k t)
def locksOk (x : Wld) : Prop := ∃ hs r, locks x.st.length x.tasks x.tasks.length = some (hs, r) ∧ (∀ (i : Nat) (s : Stripe), x.st[i]? = some s → hs[i]? = some s.held) ∧ x.ruleHeld = r
def tasksP (x : Wld) : Prop := (x.tasks.length : Int) = 5 ∧ (∀ (k : Nat) (t : Task), x.tasks[k]? = some t → taskD x k t) ∧ locksOk x
def tasksQ (x : Wld) : Prop := (∀ (k : Nat) (t : Task), x.tasks[k]? = some t → taskD x k t ∧ t.stamp < x.next) ∧ locksOk x
theorem taskOk_h {t : Task} {k : Int} (h : taskOk t k) : 0 ≤ t.h := h.1
theorem taskOk_op {t : Task} {k : Int} (h : taskOk t k) (h0 : ¬ t.op = 0) : t.op = 1 ∨ t.op = 2 := by
  obtain ⟨-, -, -, h | h | h⟩ := h
  · exact absurd (by rw [h]; rfl) h0
  · exact .inl h.1
  · exact .inr h.1
theorem taskOk_op3 {t : Task} {k : Int} (h : taskOk t k) : t.op = 0 ∨ t.op = 1 ∨ t.op = 2 := by
  by_cases h0 : t.op = 0
  · exact .inl h0
  · exact .inr (taskOk_op h h0)

/-! ### Numbers in slices of one's own -/
section
variable {P : Program} {h : AH} {Q : Nat → List AV → AH → Prop} {k : AV → Prog}
theorem aw_getI {z y : Int} {v : AV} {xs : List Int} {F : List Nat} (r : SlRep h v xs F) (hz : 0 ≤ z) (hy : xs[z.toNat]? = some y) (hk : (k (.int .i64 y)).awp P h Q) : (Prog.op (.idx 1 v (.int .i64 z)) fun a => .op (.ld1 a) k).awp P h Q := by
  have e1 : z = ((z.toNat : Nat) : Int) := by omega
  rw [e1]
  refine aw_idx r hy rfl ?_
  rintro b o _ Fi a ⟨rfl, rfl⟩ _
  exact aw_ld1_at a (Ext.refl _) hk
theorem reps_rep {h : AH} {y : Int} : ∀ n, Reps h (List.replicate n y) (List.replicate n ([.int .i64 y] : List AV)).flatten []
  | 0 => ⟨rfl, rfl⟩
  | n + 1 => ⟨[.int .i64 y], _, [], [], by simp [List.replicate_succ], rfl, ⟨rfl, rfl⟩, reps_rep n⟩
end

theorem s_impl_tasksOk {h : AH} {x : Wld} {cs : List AV} {F : List Nat} (ok : Cel.ok x) (hs : Sz.sz x ≤ 67108864) (r : Cel.rep h x cs F) :
    RCalls Tryz.prog n_impl_tasksOk [.agg cs] h (.bool (bp (tasksP x))) := by
  obtain ⟨v0, v1, v2, v3, v4, v5, v6, v7, v8, v9, v10, F0, F1, F2, F3, F4, F5, F6, F7, F8, F9, F10, rfl, rfl, r0, r1, r2, r3, r4, r5, r6, r7, r8, r9, r10⟩ := r
  obtain ⟨ok_c, ok_time, ok_st, ok_ruleHeld, ok_b, ok_cache, ok_used, ok_w, ok_due, ok_queue, ok_out, ok_tasks, ok_deeds, ok_next⟩ := ok
  have hs : Sz.sz x.c + (x.st.length + szs x.st) + (x.cache.length + szs x.cache) + Sz.sz x.w + (x.due.length + szs x.due) + (x.queue.length + szs x.queue) + (x.out.length + szs x.out) + (x.tasks.length + szs x.tasks) + (x.deeds.length + szs x.deeds) ≤ 67108864 := hs
  have hl1 := r1.small
  have hl9 := r9.small
  refine reader (c_impl_tasksOk _) (by simp only [old]) ?_
  unfold p_impl_tasksOk
  (repeat' first|refine vs ?_|(refine br ?_ ?_<;>intro _<;>try(exfalso;first|omega|contradiction))|((with_reducible refine g_idx ?_);((first|refine ix ?_|refine ixi ?_|(refine ixg ?_;intro _ _)|(refine ixgi ?_;intro _ _));first|rintro _ _ _ _ _ ⟨rfl,rfl⟩ _|rintro _ _ _ _ _ ⟨_,rfl,_⟩ _|rintro _ _ _ _ _ ⟨_,_,_,_,rfl,rfl,_,_⟩ _|intro _ _ _ _ _ _ _))|(refine sx ?_;intro _ _)|((with_reducible refine g_awp ?_);simp only [g0,g1,g2]))
  · exact pf fun k => by have := k.1; omega
  refine aw_mksl (by omega) ?_
  have hlr : (List.replicate x.st.length (0 : Int)).length = x.st.length := by simp
  have rN : SlRep ((h.push ⟨(x.cs v0 v1 v2 v3 v4 v5 v6 v7 v8 v9 v10), 0, 0⟩).push ⟨(List.replicate x.st.length ([.int .i64 0] : List AV)).flatten, 1, 0⟩) (.sl (h.n + 1) 0 x.st.length) (List.replicate x.st.length (0 : Int)) [h.n + 1] := slrep_push (h := h.push ⟨(x.cs v0 v1 v2 v3 v4 v5 v6 v7 v8 v9 v10), 0, 0⟩) (n := x.st.length) (xs := List.replicate x.st.length (0 : Int)) (by simp) (by omega) (reps_rep _)
  have oN : Own (h.n + 1) ((h.push ⟨(x.cs v0 v1 v2 v3 v4 v5 v6 v7 v8 v9 v10), 0, 0⟩).push ⟨(List.replicate x.st.length ([.int .i64 0] : List AV)).flatten, 1, 0⟩) [h.n + 1] := own_push (by simp) rfl (by simp) Own.nil
  (repeat' first|refine vs ?_|(refine br ?_ ?_<;>intro _<;>try(exfalso;first|omega|contradiction))|((with_reducible refine g_idx ?_);((first|refine ix ?_|refine ixi ?_|(refine ixg ?_;intro _ _)|(refine ixgi ?_;intro _ _));first|rintro _ _ _ _ _ ⟨rfl,rfl⟩ _|rintro _ _ _ _ _ ⟨_,rfl,_⟩ _|rintro _ _ _ _ _ ⟨_,_,_,_,rfl,rfl,_,_⟩ _|intro _ _ _ _ _ _ _))|(refine sx ?_;intro _ _)|((with_reducible refine g_awp ?_);simp only [g0,g1,g2]))
  refine aw_upto x.st.length (fun i vs h1 => ∃ G, vs = [.int .i64 (i : Int)] ∧ i ≤ x.st.length ∧ Ext (h.push ⟨(x.cs v0 v1 v2 v3 v4 v5 v6 v7 v8 v9 v10), 0, 0⟩) h1 ∧ h.n + 2 ≤ h1.n ∧ SlRep h1 (.sl (h.n + 1) 0 x.st.length) (List.replicate i (-1 : Int) ++ List.replicate (x.st.length - i) 0) G ∧ Own (h.n + 1) h1 G) ⟨_, rfl, Nat.zero_le _, ext_auto, by simp, by simpa using rN, oN⟩ ?_
  rintro i vs h1 _ ⟨G, rfl, hi, e1, hn1, rG, oG⟩
  simp only [g0]
  refine br (fun hlt => ?_) (fun hge => ?_)
  · refine aw_ite_t (aw_setI rG oG (by omega) (by simp; omega) ?_)
    intro h2 ek2 kp2 hn2 rG2 oG2
    (repeat' first|refine vs ?_|(refine br ?_ ?_<;>intro _<;>try(exfalso;first|omega|contradiction))|((with_reducible refine g_idx ?_);((first|refine ix ?_|refine ixi ?_|(refine ixg ?_;intro _ _)|(refine ixgi ?_;intro _ _));first|rintro _ _ _ _ _ ⟨rfl,rfl⟩ _|rintro _ _ _ _ _ ⟨_,rfl,_⟩ _|rintro _ _ _ _ _ ⟨_,_,_,_,rfl,rfl,_,_⟩ _|intro _ _ _ _ _ _ _))|(refine sx ?_;intro _ _)|((with_reducible refine g_awp ?_);simp only [g0,g1,g2]))
    refine ⟨by omega, G, rfl, by omega, ek2 _ e1 (by simp), by omega, ?_, oG2⟩
    have : (List.replicate i (-1 : Int) ++ List.replicate (x.st.length - i) 0).set ((i : Int)).toNat (-1) = List.replicate (i + 1) (-1 : Int) ++ List.replicate (x.st.length - (i + 1)) 0 := by
      have e : x.st.length - i = (x.st.length - (i + 1)) + 1 := by omega
      rw [e, List.replicate_succ, List.set_append_right _ _ (by simp), List.replicate_succ' (n := i)]
      simp
    rw [← this]; exact rG2
  have ei : i = x.st.length := by omega
  subst ei
  rw [show List.replicate x.st.length (-1 : Int) ++ List.replicate (x.st.length - x.st.length) 0 = List.replicate x.st.length (-1 : Int) by simp] at rG
  (repeat' first|refine vs ?_|(refine br ?_ ?_<;>intro _<;>try(exfalso;first|omega|contradiction))|((with_reducible refine g_idx ?_);((first|refine ix ?_|refine ixi ?_|(refine ixg ?_;intro _ _)|(refine ixgi ?_;intro _ _));first|rintro _ _ _ _ _ ⟨rfl,rfl⟩ _|rintro _ _ _ _ _ ⟨_,rfl,_⟩ _|rintro _ _ _ _ _ ⟨_,_,_,_,rfl,rfl,_,_⟩ _|intro _ _ _ _ _ _ _))|(refine sx ?_;intro _ _)|((with_reducible refine g_awp ?_);simp only [g0,g1,g2]))
  have b1 : Bk h1 h.n (x.cs v0 v1 v2 v3 v4 v5 v6 v7 v8 v9 v10) 0 := bk_ext1 e1 bk_push
  refine aw_upto x.tasks.length (fun i vs h2 => ∃ y1 y2 hs r G, vs = [.int .i64 r, y1, y2, .int .i64 (i : Int)] ∧ i ≤ x.tasks.length ∧ Ext (h.push ⟨(x.cs v0 v1 v2 v3 v4 v5 v6 v7 v8 v9 v10), 0, 0⟩) h2 ∧ h.n + 2 ≤ h2.n ∧ hs.length = x.st.length ∧ locks x.st.length x.tasks i = some (hs, r) ∧ SlRep h2 (.sl (h.n + 1) 0 x.st.length) hs G ∧ Own (h.n + 1) h2 G ∧ Upto x.tasks (taskD x) i) ⟨_, _, _, _, G, rfl, Nat.zero_le _, ext_auto, hn1, by simp, rfl, rG, oG, up0⟩ ?_
  clear hi hge e1 hn1 rG oG b1 rN oN
  rintro i vs h2 _ ⟨y1, y2, hs', r', G', rfl, hi, e2, hn2, hlen, hlk, rG', oG', hu⟩
  simp only [g0, g1, g2, g3]
  refine br (fun hlt => ?_) (fun hge => ?_)
  · obtain ⟨t, ht, -, -⟩ := drop_step (show i < x.tasks.length by omega)
    have hm := List.mem_of_getElem? ht
    have hsz := szs_mem hm
    have okt := ok_tasks t hm
    have hbz := holds_b t x.st.length
    refine vs ?_
    refine aw_idx r9 ht rfl ?_
    rintro b o _ Fi a ⟨va, vb, Fa, Fb, rfl, rfl, ra, rb⟩ _
    (repeat' first|refine vs ?_|(refine br ?_ ?_<;>intro _<;>try(exfalso;first|omega|contradiction))|((with_reducible refine g_callf n_impl_TaskOk ?_);(refine aw_rcall_b (s_impl_TaskOk (t := t) okt (by omega) slr_auto slr_auto) ?_ ?_ <;> intro hn <;> first | replace hn := bp_true hn | replace hn := bp_false hn))|((with_reducible refine g_callf n_impl_deedOfTask ?_);(refine aw_rcall_b (s_impl_deedOfTask ht (taskOk_h (by assumption)) (taskOk_op (by assumption) (by assumption)) ⟨_, _, _, _, _, _, _, _, _, _, _, _, _, _, _, _, _, _, _, _, _, _, rfl, rfl, slr_auto, slr_auto, slr_auto, slr_auto, slr_auto, slr_auto, slr_auto, slr_auto, slr_auto, slr_auto, slr_auto⟩) ?_ ?_ <;> intro hn <;> first | replace hn := bp_true hn | replace hn := bp_false hn))|((with_reducible refine g_idx ?_);((first|refine ix ?_|refine ixi ?_|(refine ixg ?_;intro _ _)|(refine ixgi ?_;intro _ _));first|rintro _ _ _ _ _ ⟨rfl,rfl⟩ _|rintro _ _ _ _ _ ⟨_,rfl,_⟩ _|rintro _ _ _ _ _ ⟨_,_,_,_,rfl,rfl,_,_⟩ _|intro _ _ _ _ _ _ _))|(refine sx ?_;intro _ _)|((with_reducible refine g_awp ?_);simp only [g0,g1,g2]))
    all_goals first
      | (refine pf fun k => ?_; have k := k.2.1 i t ht; first | exact absurd k.1 (by assumption) | exact absurd (k.2 (by assumption)) (by assumption))
      | skip
    all_goals
      have hD : taskD x i t := ⟨by assumption, by intro hh; first | assumption | exact absurd (by assumption) hh⟩
      refine aw_rcall (s_impl_HoldsStripe (t := t)) ?_
      refine br (fun hge2 => ?_) (fun hlt2 => ?_)
      · have hzl := hbz.2 hge2
        obtain ⟨y, hy, -, -⟩ := drop_step (show (holdsStripe t x.st.length).toNat < hs'.length by omega)
        refine vs ?_
        refine aw_getI slr_auto (by omega) hy ?_
        refine br (fun hne => ?_) (fun heq => ?_)
        · (repeat' first|refine vs ?_|(refine br ?_ ?_<;>intro _<;>try(exfalso;first|omega|contradiction))|((with_reducible refine g_idx ?_);((first|refine ix ?_|refine ixi ?_|(refine ixg ?_;intro _ _)|(refine ixgi ?_;intro _ _));first|rintro _ _ _ _ _ ⟨rfl,rfl⟩ _|rintro _ _ _ _ _ ⟨_,rfl,_⟩ _|rintro _ _ _ _ _ ⟨_,_,_,_,rfl,rfl,_,_⟩ _|intro _ _ _ _ _ _ _))|(refine sx ?_;intro _ _)|((with_reducible refine g_awp ?_);simp only [g0,g1,g2]))
          exact pf fun k => by
            obtain ⟨-, -, h5, r5, hl5, -⟩ := k
            rw [locks_mono (locks_f1 hlk ht (takeS_f hge2 hy hne)) (by omega)] at hl5; cases hl5
        · refine aw_ite_f (aw_setI (n := h.n + 1) (y := i) slr_auto ol_auto (by omega) (by omega) ?_)
          intro h3 ek3 kp3 hn3 rG3 oG3
          have e3 := ek3 _ (ext_auto : Ext (h.push ⟨(x.cs v0 v1 v2 v3 v4 v5 v6 v7 v8 v9 v10), 0, 0⟩) _) (by simp)
          have hsS := takeS_y (k := i) hge2 hy heq
          have bt : Bk h3 h2.n [.int .i64 t.op, .int .i64 t.pc, .int .i64 t.s.trace, .int .i64 t.s.id, .int .i64 t.s.start, .int .i64 t.s.fin, .bool t.s.err, va, .int .i64 t.trace, .int .i64 t.stamp, vb, .int .i64 t.h] 0 := bk_kp1 kp3 bk_auto (nin_lt rG' (Nat.le_refl _))
          (repeat' first|refine vs ?_|(refine br ?_ ?_<;>intro _<;>try(exfalso;first|omega|contradiction))|((with_reducible refine g_callf n_impl_HoldsRule ?_);(refine aw_rcall_b (s_impl_HoldsRule (t := t)) ?_ ?_ <;> intro hn <;> first | replace hn := bp_true hn | replace hn := bp_false hn))|((with_reducible refine g_idx ?_);((first|refine ix ?_|refine ixi ?_|(refine ixg ?_;intro _ _)|(refine ixgi ?_;intro _ _));first|rintro _ _ _ _ _ ⟨rfl,rfl⟩ _|rintro _ _ _ _ _ ⟨_,rfl,_⟩ _|rintro _ _ _ _ _ ⟨_,_,_,_,rfl,rfl,_,_⟩ _|intro _ _ _ _ _ _ _))|(refine sx ?_;intro _ _)|((with_reducible refine g_awp ?_);simp only [g0,g1,g2]))
          all_goals first
            | (refine pf fun k => ?_; obtain ⟨-, -, h5, r5, hl5, -⟩ := k; rw [locks_mono (locks_f2 hlk ht (takeR_f (by assumption) (by assumption))) (by omega)] at hl5; cases hl5)
            | exact ⟨by omega, _, _, _, _, _, rfl, by omega, ext_auto, om_auto, by simpa using hlen, locks_s hlk ht hsS (takeR_y (by assumption) (by assumption)), slr_auto, ol_auto, upS hu ht hD⟩
            | exact ⟨by omega, _, _, _, _, _, rfl, by omega, ext_auto, om_auto, by simpa using hlen, locks_s hlk ht hsS (takeR_n (by assumption)), slr_auto, ol_auto, upS hu ht hD⟩
      · have hsS := takeS_n (k := i) (hs := hs') hlt2
        (repeat' first|refine vs ?_|(refine br ?_ ?_<;>intro _<;>try(exfalso;first|omega|contradiction))|((with_reducible refine g_callf n_impl_HoldsRule ?_);(refine aw_rcall_b (s_impl_HoldsRule (t := t)) ?_ ?_ <;> intro hn <;> first | replace hn := bp_true hn | replace hn := bp_false hn))|((with_reducible refine g_idx ?_);((first|refine ix ?_|refine ixi ?_|(refine ixg ?_;intro _ _)|(refine ixgi ?_;intro _ _));first|rintro _ _ _ _ _ ⟨rfl,rfl⟩ _|rintro _ _ _ _ _ ⟨_,rfl,_⟩ _|rintro _ _ _ _ _ ⟨_,_,_,_,rfl,rfl,_,_⟩ _|intro _ _ _ _ _ _ _))|(refine sx ?_;intro _ _)|((with_reducible refine g_awp ?_);simp only [g0,g1,g2]))
        all_goals first
          | (refine pf fun k => ?_; obtain ⟨-, -, h5, r5, hl5, -⟩ := k; rw [locks_mono (locks_f2 hlk ht (takeR_f (by assumption) (by assumption))) (by omega)] at hl5; cases hl5)
          | exact ⟨by omega, _, _, _, _, _, rfl, by omega, ext_auto, om_auto, hlen, locks_s hlk ht hsS (takeR_y (by assumption) (by assumption)), slr_auto, ol_auto, upS hu ht hD⟩
          | exact ⟨by omega, _, _, _, _, _, rfl, by omega, ext_auto, om_auto, hlen, locks_s hlk ht hsS (takeR_n (by assumption)), slr_auto, ol_auto, upS hu ht hD⟩
  · have ei : i = x.tasks.length := by omega
    subst ei
    have hu := upEnd hu
    (repeat' first|refine vs ?_|(refine br ?_ ?_<;>intro _<;>try(exfalso;first|omega|contradiction))|((with_reducible refine g_idx ?_);((first|refine ix ?_|refine ixi ?_|(refine ixg ?_;intro _ _)|(refine ixgi ?_;intro _ _));first|rintro _ _ _ _ _ ⟨rfl,rfl⟩ _|rintro _ _ _ _ _ ⟨_,rfl,_⟩ _|rintro _ _ _ _ _ ⟨_,_,_,_,rfl,rfl,_,_⟩ _|intro _ _ _ _ _ _ _))|(refine sx ?_;intro _ _)|((with_reducible refine g_awp ?_);simp only [g0,g1,g2]))
    refine aw_upto x.st.length (fun i vs h3 => vs = [.int .i64 (i : Int)] ∧ i ≤ x.st.length ∧ Ext h2 h3 ∧ Upto x.st (fun i s => hs'[i]? = some s.held) i) ⟨rfl, Nat.zero_le _, Ext.refl _, up0⟩ ?_
    rintro i vs h3 _ ⟨rfl, hi3, e3, hu3⟩
    simp only [g0]
    refine br (fun hlt => ?_) (fun hge3 => ?_)
    · obtain ⟨s, hx, -, -⟩ := drop_step (show i < x.st.length by omega)
      obtain ⟨y, hy, -, -⟩ := drop_step (show i < hs'.length by omega)
      (repeat' first|refine vs ?_|(refine br ?_ ?_<;>intro _<;>try(exfalso;first|omega|contradiction))|((with_reducible refine g_idx ?_);((first|refine ix ?_|refine ixi ?_|(refine ixg ?_;intro _ _)|(refine ixgi ?_;intro _ _));first|rintro _ _ _ _ _ ⟨rfl,rfl⟩ _|rintro _ _ _ _ _ ⟨_,rfl,_⟩ _|rintro _ _ _ _ _ ⟨_,_,_,_,rfl,rfl,_,_⟩ _|intro _ _ _ _ _ _ _))|(refine sx ?_;intro _ _)|((with_reducible refine g_awp ?_);simp only [g0,g1,g2]))
      · exact pf fun k => by
          obtain ⟨-, -, h5, r5, hl5, hh, -⟩ := k
          rw [hlk] at hl5; cases hl5
          have := hh i s hx
          rw [hy] at this; cases this
          contradiction
      · exact ⟨by omega, rfl, by omega, ext_auto, upS hu3 hx (by rw [hy]; congr 1; omega)⟩
    · rw [show i = x.st.length by omega] at hu3
      have hu3 := upEnd hu3
      (repeat' first|refine vs ?_|(refine br ?_ ?_<;>intro _<;>try(exfalso;first|omega|contradiction))|((with_reducible refine g_idx ?_);((first|refine ix ?_|refine ixi ?_|(refine ixg ?_;intro _ _)|(refine ixgi ?_;intro _ _));first|rintro _ _ _ _ _ ⟨rfl,rfl⟩ _|rintro _ _ _ _ _ ⟨_,rfl,_⟩ _|rintro _ _ _ _ _ ⟨_,_,_,_,rfl,rfl,_,_⟩ _|intro _ _ _ _ _ _ _))|(refine sx ?_;intro _ _)|((with_reducible refine g_awp ?_);simp only [g0,g1,g2]))
      · exact pt ⟨by omega, hu, _, _, hlk, hu3, by assumption⟩
      · exact pf fun k => by
          obtain ⟨-, -, h5, r5, hl5, hh, hr⟩ := k
          rw [hlk] at hl5; cases hl5
          contradiction
end Go.Proofs.YtideefohbkhhhaaGreat
