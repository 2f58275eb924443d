
/- Worlds: the stamps, by the program: the walk. -/
import Derived.Test.YtideefohbkhhhaaGreatW27
set_option linter.unusedSimpArgs false
set_option linter.unusedVariables false
set_option maxHeartbeats 8000000
namespace Go.Proofs.YtideefohbkhhhaaGreat
open Go Go.Ab

def tmOf (t : Task) : Ab.Timer := ⟨t.stamp, t.trace, 0⟩
def judges (l : List Task) : List Ab.Timer := (l.filter fun t => decide (t.op = 2 ∧ t.pc ≠ 3)).map tmOf
theorem judges_y {l : List Task} {i : Nat} {t : Task} (htk : l.take (i + 1) = l.take i ++ [t]) (h : t.op = 2 ∧ t.pc ≠ 3) : judges (l.take (i + 1)) = judges (l.take i) ++ [tmOf t] := by
  rw [htk]; unfold judges; rw [List.filter_append, List.map_append]; congr 1; simp [h]
theorem judges_n {l : List Task} {i : Nat} {t : Task} (htk : l.take (i + 1) = l.take i ++ [t]) (h : ¬ (t.op = 2 ∧ t.pc ≠ 3)) : judges (l.take (i + 1)) = judges (l.take i) := by
  rw [htk]; unfold judges; rw [List.filter_append, List.map_append]; simp [h]
theorem judges_len (l : List Task) (i : Nat) : (judges (l.take i)).length ≤ l.length := by
  unfold judges
  have h1 := List.length_filter_le (fun t : Task => decide (t.op = 2 ∧ t.pc ≠ 3)) (l.take i)
  have h2 := List.length_take_le' i l
  rw [List.length_map]; omega
theorem known_iff {x : Wld} {id stamp : Int} : (∃ y ∈ allTm x ++ judges x.tasks, isTm id stamp y = true) ↔ known x id stamp := by
  constructor
  · rintro ⟨y, hy, hp⟩
    simp only [isTm, decide_eq_true_eq] at hp
    rcases List.mem_append.1 hy with hy | hy
    · exact .inl ⟨y, hy, hp⟩
    · unfold judges at hy
      obtain ⟨t, ht, rfl⟩ := List.mem_map.1 hy
      obtain ⟨hm, hq⟩ := List.mem_filter.1 ht
      simp only [decide_eq_true_eq] at hq
      exact .inr ⟨t, hm, hq.1, hq.2, hp.1, hp.2⟩
  · rintro (⟨y, hy, hp⟩ | ⟨t, ht, h1, h2, h3, h4⟩)
    · exact ⟨y, List.mem_append_left _ hy, by simp [isTm, hp]⟩
    · refine ⟨tmOf t, List.mem_append_right _ ?_, by simp [isTm, tmOf, h3, h4]⟩
      unfold judges
      exact List.mem_map.2 ⟨t, List.mem_filter.2 ⟨ht, by simp [h1, h2]⟩, rfl⟩
theorem map_s {α β : Type} (f : α → β) {l : List α} {i : Nat} {x : α} (htk : l.take (i + 1) = l.take i ++ [x]) : (l.take (i + 1)).map f = (l.take i).map f ++ [f x] := by rw [htk, List.map_append]; rfl
theorem map_l {α β : Type} (f : α → β) (l : List α) (i : Nat) : ((l.take i).map f).length ≤ l.length := by rw [List.length_map]; exact List.length_take_le' i l
def stampsL (x : Wld) : List Int := (allTm x).map (·.id) ++ (x.cache.map (·.stamp) ++ (x.tasks.map (·.stamp) ++ (allT x.st).map (·.stamp)))
def stampsI (x : Wld) : Prop := (∀ t ∈ allT x.st, known x t.id t.stamp) ∧ ∀ n ∈ stampsL x, n < x.next
theorem s_impl_stampsOk {h : AH} {x : Wld} {cs : List AV} {F : List Nat} (hs : Sz.sz x ≤ 67108864) (r : Cel.rep h x cs F) :
    RCalls Tryz.prog n_impl_stampsOk [.agg cs] h (.bool (bp (stampsI x))) := by
  obtain ⟨v0, v1, v2, v3, v4, v5, v6, v7, v8, v9, v10, F0, F1, F2, F3, F4, F5, F6, F7, F8, F9, F10, rfl, rfl, r0, r1, r2, r3, r4, r5, r6, r7, r8, r9, r10⟩ := r
  have hs : Sz.sz x.c + (x.st.length + szs x.st) + (x.cache.length + szs x.cache) + Sz.sz x.w + (x.due.length + szs x.due) + (x.queue.length + szs x.queue) + (x.out.length + szs x.out) + (x.tasks.length + szs x.tasks) + (x.deeds.length + szs x.deeds) ≤ 67108864 := hs
  have hl2 := r2.small
  have hl9 := r9.small
  have htb := timers_b x.w
  have hab := allT_b x.st
  refine reader (c_impl_stampsOk _) (by simp only [old]) ?_
  unfold p_impl_stampsOk
  (repeat' first|refine vs ?_|(refine br ?_ ?_<;>intro _<;>try(exfalso;first|omega|contradiction))|((with_reducible refine g_idx ?_);((first|refine ix ?_|refine ixi ?_|(refine ixg ?_;intro _ _)|(refine ixgi ?_;intro _ _));first|rintro _ _ _ _ _ ⟨rfl,rfl⟩ _|rintro _ _ _ _ _ ⟨_,rfl,_⟩ _|rintro _ _ _ _ _ ⟨_,_,_,_,rfl,rfl,_,_⟩ _|intro _ _ _ _ _ _ _))|(refine sx ?_;intro _ _)|((with_reducible refine g_awp ?_);simp only [g0,g1,g2]))
  refine aw_call (s_impl_Timers (w := x.w) om_auto slr_auto slr_auto slr_auto) ?_
  rintro u h1 ⟨e1, G1, q1, o1⟩
  have n1 := e1.1
  simp only [push_n] at n1 o1
  refine vs ?_
  refine app2F (n := h.n + 1) (xs := timers x.w) (ys := x.due) (Fx := G1) q1 (slr_auto : SlRep _ v6 x.due F6) o1 om_auto rfl (by omega) (by omega) ?_
  intro v h4 T kp0 kp q2 o2
  have e4 := kp0 _ e1 (by simp)
  have n4 := e4.1
  simp only [push_n] at n4
  have hlen : (timers x.w ++ x.due).length = (timers x.w).length + x.due.length := by simp
  clear kp0 kp e1 n1 q1 o1
  change SlRep h4 v (allTm x) T at q2
  have hlen : (allTm x).length = (timers x.w).length + x.due.length := hlen
  have hsm := q2.small
  refine vs ?_
  refine aw_upto (allTm x).length (fun i vs h5 => ∃ u G, vs = [u, .int .i64 (i : Int)] ∧ i ≤ (allTm x).length ∧ Ext h4 h5 ∧ SlRep h5 u (((allTm x).take i).map (·.id)) G ∧ Own h4.n h5 G) ⟨_, _, rfl, Nat.zero_le _, Ext.refl _, SlRep.nils, Own.nil⟩ ?_
  rintro i vs h5 _ ⟨u, G, rfl, hi, e5, ru, ou⟩
  have n5 := e5.1
  simp only [g0, g1]
  have hml := map_l (·.id) (allTm x) i
  refine br (fun hlt => ?_) (fun hge => ?_)
  · obtain ⟨t, ht, -, htk⟩ := drop_step (show i < (allTm x).length by omega)
    (repeat' first|refine vs ?_|(refine br ?_ ?_<;>intro _<;>try(exfalso;first|omega|contradiction))|((with_reducible refine g_idx ?_);((first|refine ix ?_|refine ixi ?_|(refine ixg ?_;intro _ _)|(refine ixgi ?_;intro _ _));first|rintro _ _ _ _ _ ⟨rfl,rfl⟩ _|rintro _ _ _ _ _ ⟨_,rfl,_⟩ _|rintro _ _ _ _ _ ⟨_,_,_,_,rfl,rfl,_,_⟩ _|intro _ _ _ _ _ _ _))|(refine sx ?_;intro _ _)|((with_reducible refine g_awp ?_);simp only [g0,g1,g2]))
    refine app1F (n := h4.n) (xs := ((allTm x).take i).map (·.id)) (a := t.id) (G := []) slr_auto ⟨rfl, rfl⟩ (by rw [List.append_nil]; exact ol_auto) om_auto rfl (by omega) (by omega) ?_
    intro v' h' F' ek kp r' o' _
    (repeat' first|refine vs ?_|(refine br ?_ ?_<;>intro _<;>try(exfalso;first|omega|contradiction))|((with_reducible refine g_idx ?_);((first|refine ix ?_|refine ixi ?_|(refine ixg ?_;intro _ _)|(refine ixgi ?_;intro _ _));first|rintro _ _ _ _ _ ⟨rfl,rfl⟩ _|rintro _ _ _ _ _ ⟨_,rfl,_⟩ _|rintro _ _ _ _ _ ⟨_,_,_,_,rfl,rfl,_,_⟩ _|intro _ _ _ _ _ _ _))|(refine sx ?_;intro _ _)|((with_reducible refine g_awp ?_);simp only [g0,g1,g2]))
    exact ⟨by omega, v', F', rfl, by omega, ek _ ext_auto (Nat.le_refl _), by rw [map_s _ htk]; exact r', o'⟩
  have ei : i = (allTm x).length := by omega
  subst ei
  rw [List.take_length] at ru
  clear hml hi hge
  (repeat' first|refine vs ?_|(refine br ?_ ?_<;>intro _<;>try(exfalso;first|omega|contradiction))|((with_reducible refine g_idx ?_);((first|refine ix ?_|refine ixi ?_|(refine ixg ?_;intro _ _)|(refine ixgi ?_;intro _ _));first|rintro _ _ _ _ _ ⟨rfl,rfl⟩ _|rintro _ _ _ _ _ ⟨_,rfl,_⟩ _|rintro _ _ _ _ _ ⟨_,_,_,_,rfl,rfl,_,_⟩ _|intro _ _ _ _ _ _ _))|(refine sx ?_;intro _ _)|((with_reducible refine g_awp ?_);simp only [g0,g1,g2]))
  refine aw_upto x.cache.length (fun i vs h6 => ∃ u G, vs = [u, .int .i64 (i : Int)] ∧ i ≤ x.cache.length ∧ Ext h4 h6 ∧ SlRep h6 u ((allTm x).map (·.id) ++ (x.cache.take i).map (·.stamp)) G ∧ Own h4.n h6 G) ⟨u, G, rfl, Nat.zero_le _, e5, by simpa using ru, ou⟩ ?_
  clear ru ou e5 n5
  rintro i vs h6 _ ⟨u, G, rfl, hi, e5, ru, ou⟩
  have n5 := e5.1
  simp only [g0, g1]
  have hml := map_l (·.stamp) x.cache i
  have hll : ((allTm x).map (·.id) ++ (x.cache.take i).map (·.stamp)).length = (allTm x).length + ((x.cache.take i).map (·.stamp)).length := by simp
  refine br (fun hlt => ?_) (fun hge => ?_)
  · obtain ⟨t, ht, -, htk⟩ := drop_step (show i < x.cache.length by omega)
    (repeat' first|refine vs ?_|(refine br ?_ ?_<;>intro _<;>try(exfalso;first|omega|contradiction))|((with_reducible refine g_idx ?_);((first|refine ix ?_|refine ixi ?_|(refine ixg ?_;intro _ _)|(refine ixgi ?_;intro _ _));first|rintro _ _ _ _ _ ⟨rfl,rfl⟩ _|rintro _ _ _ _ _ ⟨_,rfl,_⟩ _|rintro _ _ _ _ _ ⟨_,_,_,_,rfl,rfl,_,_⟩ _|intro _ _ _ _ _ _ _))|(refine sx ?_;intro _ _)|((with_reducible refine g_awp ?_);simp only [g0,g1,g2]))
    refine app1F (n := h4.n) (xs := (allTm x).map (·.id) ++ (x.cache.take i).map (·.stamp)) (a := t.stamp) (G := []) slr_auto ⟨rfl, rfl⟩ (by rw [List.append_nil]; exact ol_auto) om_auto rfl (by omega) (by omega) ?_
    intro v' h' F' ek kp r' o' _
    (repeat' first|refine vs ?_|(refine br ?_ ?_<;>intro _<;>try(exfalso;first|omega|contradiction))|((with_reducible refine g_idx ?_);((first|refine ix ?_|refine ixi ?_|(refine ixg ?_;intro _ _)|(refine ixgi ?_;intro _ _));first|rintro _ _ _ _ _ ⟨rfl,rfl⟩ _|rintro _ _ _ _ _ ⟨_,rfl,_⟩ _|rintro _ _ _ _ _ ⟨_,_,_,_,rfl,rfl,_,_⟩ _|intro _ _ _ _ _ _ _))|(refine sx ?_;intro _ _)|((with_reducible refine g_awp ?_);simp only [g0,g1,g2]))
    exact ⟨by omega, v', F', rfl, by omega, ek _ ext_auto (Nat.le_refl _), by rw [map_s _ htk, ← List.append_assoc]; exact r', o'⟩
  have ei : i = x.cache.length := by omega
  subst ei
  rw [List.take_length] at ru
  clear hml hll hi hge
  (repeat' first|refine vs ?_|(refine br ?_ ?_<;>intro _<;>try(exfalso;first|omega|contradiction))|((with_reducible refine g_idx ?_);((first|refine ix ?_|refine ixi ?_|(refine ixg ?_;intro _ _)|(refine ixgi ?_;intro _ _));first|rintro _ _ _ _ _ ⟨rfl,rfl⟩ _|rintro _ _ _ _ _ ⟨_,rfl,_⟩ _|rintro _ _ _ _ _ ⟨_,_,_,_,rfl,rfl,_,_⟩ _|intro _ _ _ _ _ _ _))|(refine sx ?_;intro _ _)|((with_reducible refine g_awp ?_);simp only [g0,g1,g2]))
  have hGT : ∀ c ∈ G, c ∉ T := dis_own2 ou q2 (Nat.le_refl _)
  refine aw_upto x.tasks.length (fun i vs h7 => ∃ u G w T, vs = [u, w, .int .i64 (i : Int)] ∧ i ≤ x.tasks.length ∧ Ext (h.push ⟨(x.cs v0 v1 v2 v3 v4 v5 v6 v7 v8 v9 v10), 0, 0⟩) h7 ∧ SlRep h7 u ((allTm x).map (·.id) ++ (x.cache.map (·.stamp) ++ (x.tasks.take i).map (·.stamp))) G ∧ Own (h.n + 1) h7 G ∧ SlRep h7 w (allTm x ++ judges (x.tasks.take i)) T ∧ Own (h.n + 1) h7 T ∧ ∀ c ∈ G, c ∉ T) ⟨u, G, v, T, rfl, Nat.zero_le _, ext_auto, by simpa using ru, ou.mono (by omega) fun _ _ => rfl, by simpa [judges] using (slr_auto : SlRep h6 v (allTm x) T), ol_auto, hGT⟩ ?_
  clear ru ou e5 n5 hGT q2 o2
  rintro i vs h7 _ ⟨u, G, w, T, rfl, hi, e7, ru, ou, rw', ow, hGT⟩
  have n7 := e7.1
  simp only [push_n] at n7
  simp only [g0, g1, g2]
  have hml := map_l (·.stamp) x.tasks i
  have hjl := judges_len x.tasks i
  have hll : ((allTm x).map (·.id) ++ (x.cache.map (·.stamp) ++ (x.tasks.take i).map (·.stamp))).length = (allTm x).length + (x.cache.length + ((x.tasks.take i).map (·.stamp)).length) := by simp
  have hlw : (allTm x ++ judges (x.tasks.take i)).length = (allTm x).length + (judges (x.tasks.take i)).length := by simp
  refine br (fun hlt => ?_) (fun hge => ?_)
  · obtain ⟨t, ht, -, htk⟩ := drop_step (show i < x.tasks.length by omega)
    refine vs ?_
    refine aw_idx r9 ht rfl ?_
    rintro b o _ Fi a ⟨va, vb, Fa, Fb, rfl, rfl, ra, rb⟩ _
    (repeat' first|refine vs ?_|(refine br ?_ ?_<;>intro _<;>try(exfalso;first|omega|contradiction))|((with_reducible refine g_idx ?_);((first|refine ix ?_|refine ixi ?_|(refine ixg ?_;intro _ _)|(refine ixgi ?_;intro _ _));first|rintro _ _ _ _ _ ⟨rfl,rfl⟩ _|rintro _ _ _ _ _ ⟨_,rfl,_⟩ _|rintro _ _ _ _ _ ⟨_,_,_,_,rfl,rfl,_,_⟩ _|intro _ _ _ _ _ _ _))|(refine sx ?_;intro _ _)|((with_reducible refine g_awp ?_);simp only [g0,g1,g2]))
    refine app1F (n := h.n + 1) (xs := (allTm x).map (·.id) ++ (x.cache.map (·.stamp) ++ (x.tasks.take i).map (·.stamp))) (a := t.stamp) (G := []) slr_auto ⟨rfl, rfl⟩ (by rw [List.append_nil]; exact ol_auto) om_auto rfl (by omega) (by omega) ?_
    intro v' h8 F' ek kp r' o' hF
    have e8 := ek _ (ext_auto : Ext (h.push ⟨(x.cs v0 v1 v2 v3 v4 v5 v6 v7 v8 v9 v10), 0, 0⟩) _) (by simp)
    have n8 := kp.1
    simp only [push_n] at n8
    have bt : Bk h8 h7.n [.int .i64 t.op, .int .i64 t.pc, .int .i64 t.s.trace, .int .i64 t.s.id, .int .i64 t.s.start, .int .i64 t.s.fin, .bool t.s.err, va, .int .i64 t.trace, .int .i64 t.stamp, vb, .int .i64 t.h] 0 := bk_kp1 kp bk_auto (nin_lt ru (Nat.le_refl _))
    have w8 : SlRep h8 w (allTm x ++ judges (x.tasks.take i)) T := slr_kp1 kp slr_auto fun c hc hg => hGT c hg hc
    have ow8 : Own (h.n + 1) h8 T := (ol_kp1 kp oll_auto fun c hc hg => hGT c hg hc).1
    have hd8 : ∀ c ∈ F', c ∉ T := fun c hc hT => by
      rcases hF c hc with h1 | h1 | h1
      · exact hGT c h1 hT
      · cases h1
      · have := rw'.lt c hT
        simp only [push_n] at h1; omega
    rw [List.append_assoc, List.append_assoc, ← map_s (fun t : Task => t.stamp) htk] at r'
    clear ek kp hF ru ou rw' ow hGT
    (repeat' first|refine vs ?_|(refine br ?_ ?_<;>intro _<;>try(exfalso;first|omega|contradiction))|((with_reducible refine g_idx ?_);((first|refine ix ?_|refine ixi ?_|(refine ixg ?_;intro _ _)|(refine ixgi ?_;intro _ _));first|rintro _ _ _ _ _ ⟨rfl,rfl⟩ _|rintro _ _ _ _ _ ⟨_,rfl,_⟩ _|rintro _ _ _ _ _ ⟨_,_,_,_,rfl,rfl,_,_⟩ _|intro _ _ _ _ _ _ _))|(refine sx ?_;intro _ _)|((with_reducible refine g_awp ?_);simp only [g0,g1,g2]))
    all_goals first
      | exact ⟨by omega, v', F', w, T, rfl, by omega, ext_auto, r', o', by rw [judges_n htk (by omega)]; exact w8, ow8, hd8⟩
      | skip
    refine app1F (n := h.n + 1) (xs := allTm x ++ judges (x.tasks.take i)) (a := tmOf t) (G := []) slr_auto ⟨rfl, rfl⟩ (by rw [List.append_nil]; exact ol_auto) om_auto rfl (by omega) (by omega) ?_
    intro w' h9 T' ek kp rT oT hT
    have e9 := ek _ (ext_auto : Ext (h.push ⟨(x.cs v0 v1 v2 v3 v4 v5 v6 v7 v8 v9 v10), 0, 0⟩) _) (by simp)
    have n9 := kp.1
    have u9 : SlRep h9 v' _ F' := slr_kp1 kp slr_auto hd8
    have ou9 : Own (h.n + 1) h9 F' := (ol_kp1 kp oll_auto hd8).1
    have hd9 : ∀ c ∈ F', c ∉ T' := fun c hc hTc => by
      rcases hT c hTc with h1 | h1 | h1
      · exact hd8 c hc h1
      · cases h1
      · have := r'.lt c hc
        (try simp only [push_n] at h1); omega
    rw [List.append_assoc, ← judges_y htk (by omega)] at rT
    (repeat' first|refine vs ?_|(refine br ?_ ?_<;>intro _<;>try(exfalso;first|omega|contradiction))|((with_reducible refine g_idx ?_);((first|refine ix ?_|refine ixi ?_|(refine ixg ?_;intro _ _)|(refine ixgi ?_;intro _ _));first|rintro _ _ _ _ _ ⟨rfl,rfl⟩ _|rintro _ _ _ _ _ ⟨_,rfl,_⟩ _|rintro _ _ _ _ _ ⟨_,_,_,_,rfl,rfl,_,_⟩ _|intro _ _ _ _ _ _ _))|(refine sx ?_;intro _ _)|((with_reducible refine g_awp ?_);simp only [g0,g1,g2]))
    exact ⟨by omega, v', F', w', T', rfl, by omega, e9, u9, ou9, rT, oT, hd9⟩
  have ei : i = x.tasks.length := by omega
  subst ei
  rw [List.take_length] at ru rw'
  clear hml hjl hll hlw hi hge
  (repeat' first|refine vs ?_|(refine br ?_ ?_<;>intro _<;>try(exfalso;first|omega|contradiction))|((with_reducible refine g_idx ?_);((first|refine ix ?_|refine ixi ?_|(refine ixg ?_;intro _ _)|(refine ixgi ?_;intro _ _));first|rintro _ _ _ _ _ ⟨rfl,rfl⟩ _|rintro _ _ _ _ _ ⟨_,rfl,_⟩ _|rintro _ _ _ _ _ ⟨_,_,_,_,rfl,rfl,_,_⟩ _|intro _ _ _ _ _ _ _))|(refine sx ?_;intro _ _)|((with_reducible refine g_awp ?_);simp only [g0,g1,g2]))
  refine aw_call (s_impl_allTrails (l := x.st) om_auto slr_auto) ?_
  rintro vL h8 ⟨e8, FL, qL, oL⟩
  have n8 := e8.1
  have hGL : ∀ c ∈ G, c ∉ FL := dis_own ru oL (Nat.le_refl _)
  refine aw_len qL ?_
  have hsL := qL.small
  refine aw_upto (allT x.st).length (fun i vs h9 => ∃ u G, vs = [u, .int .i64 (i : Int)] ∧ i ≤ (allT x.st).length ∧ Ext (h.push ⟨(x.cs v0 v1 v2 v3 v4 v5 v6 v7 v8 v9 v10), 0, 0⟩) h9 ∧ SlRep h9 u ((allTm x).map (·.id) ++ (x.cache.map (·.stamp) ++ (x.tasks.map (·.stamp) ++ ((allT x.st).take i).map (·.stamp)))) G ∧ Own (h.n + 1) h9 G ∧ SlRep h9 w (allTm x ++ judges x.tasks) T ∧ SlRep h9 vL (allT x.st) FL ∧ (∀ c ∈ G, c ∉ T) ∧ (∀ c ∈ G, c ∉ FL) ∧ Upto (allT x.st) (fun _ t => known x t.id t.stamp) i) ⟨u, G, rfl, Nat.zero_le _, ext_auto, by simpa using (slr_auto : SlRep h8 u _ G), ol_auto, slr_auto, qL, hGT, hGL, up0⟩ ?_
  clear e8 n8 oL hGL qL ru ou rw' ow hGT e7 n7
  rintro i vs h9 _ ⟨u, G, rfl, hi, e9, ru, ou, rw', rL, hGT, hGL, hu⟩
  have n9 := e9.1
  simp only [push_n] at n9
  simp only [g0, g1]
  have hml := map_l (·.stamp) (allT x.st) i
  have hll : ((allTm x).map (·.id) ++ (x.cache.map (·.stamp) ++ (x.tasks.map (·.stamp) ++ ((allT x.st).take i).map (·.stamp)))).length = (allTm x).length + (x.cache.length + (x.tasks.length + (((allT x.st).take i).map (·.stamp)).length)) := by simp
  refine br (fun hlt => ?_) (fun hge => ?_)
  · obtain ⟨t, ht, -, htk⟩ := drop_step (show i < (allT x.st).length by omega)
    refine vs ?_
    refine aw_idx rL ht rfl ?_
    rintro b o _ Fi a ⟨va, rfl, ra⟩ _
    (repeat' first|refine vs ?_|(refine br ?_ ?_<;>intro _<;>try(exfalso;first|omega|contradiction))|((with_reducible refine g_idx ?_);((first|refine ix ?_|refine ixi ?_|(refine ixg ?_;intro _ _)|(refine ixgi ?_;intro _ _));first|rintro _ _ _ _ _ ⟨rfl,rfl⟩ _|rintro _ _ _ _ _ ⟨_,rfl,_⟩ _|rintro _ _ _ _ _ ⟨_,_,_,_,rfl,rfl,_,_⟩ _|intro _ _ _ _ _ _ _))|(refine sx ?_;intro _ _)|((with_reducible refine g_awp ?_);simp only [g0,g1,g2]))
    refine app1F (n := h.n + 1) (xs := (allTm x).map (·.id) ++ (x.cache.map (·.stamp) ++ (x.tasks.map (·.stamp) ++ ((allT x.st).take i).map (·.stamp)))) (a := t.stamp) (G := []) slr_auto ⟨rfl, rfl⟩ (by rw [List.append_nil]; exact ol_auto) om_auto rfl (by omega) (by omega) ?_
    intro v' h8 F' ek kp r' o' hF
    have e8 := ek _ (ext_auto : Ext (h.push ⟨(x.cs v0 v1 v2 v3 v4 v5 v6 v7 v8 v9 v10), 0, 0⟩) _) (by simp)
    have n8 := kp.1
    simp only [push_n] at n8
    have bt : Bk h8 h9.n [.int .i64 t.id, .int .i64 t.stamp, .int .i64 t.first, va] 0 := bk_kp1 kp bk_auto (nin_lt ru (Nat.le_refl _))
    have w8 : SlRep h8 w (allTm x ++ judges x.tasks) T := slr_kp1 kp slr_auto fun c hc hg => hGT c hg hc
    have L8 : SlRep h8 vL (allT x.st) FL := slr_kp1 kp slr_auto fun c hc hg => hGL c hg hc
    have hdT : ∀ c ∈ F', c ∉ T := fun c hc hT => by
      rcases hF c hc with h1 | h1 | h1
      · exact hGT c h1 hT
      · cases h1
      · have := rw'.lt c hT
        simp only [push_n] at h1; omega
    have hdL : ∀ c ∈ F', c ∉ FL := fun c hc hT => by
      rcases hF c hc with h1 | h1 | h1
      · exact hGL c h1 hT
      · cases h1
      · have := rL.lt c hT
        simp only [push_n] at h1; omega
    rw [List.append_assoc, List.append_assoc, List.append_assoc, ← map_s (fun t : Trail => t.stamp) htk] at r'
    clear ek kp hF ru ou rw' rL hGT hGL
    (repeat' first|refine vs ?_|(refine br ?_ ?_<;>intro _<;>try(exfalso;first|omega|contradiction))|((with_reducible refine g_callf n_slices_ContainsFunc_Timer ?_);(refine aw_rcall_b (s_slices_ContainsFunc_Timer slr_auto (s_stampsOk_1 (t := t) (v := va) (at_bk bt))) ?_ ?_ <;> intro hn <;> first | replace hn := bp_true hn | replace hn := bp_false hn))|((with_reducible refine g_idx ?_);((first|refine ix ?_|refine ixi ?_|(refine ixg ?_;intro _ _)|(refine ixgi ?_;intro _ _));first|rintro _ _ _ _ _ ⟨rfl,rfl⟩ _|rintro _ _ _ _ _ ⟨_,rfl,_⟩ _|rintro _ _ _ _ _ ⟨_,_,_,_,rfl,rfl,_,_⟩ _|intro _ _ _ _ _ _ _))|(refine sx ?_;intro _ _)|((with_reducible refine g_awp ?_);simp only [g0,g1,g2]))
    all_goals first
      | exact pf fun k => absurd (known_iff.2 (k.1 t (List.mem_of_getElem? ht))) (by assumption)
      | exact ⟨by omega, v', F', rfl, by omega, ext_auto, r', o', w8, L8, hdT, hdL, upS hu ht (known_iff.1 (by assumption))⟩
  have ei : i = (allT x.st).length := by omega
  subst ei
  rw [List.take_length] at ru
  have hu := upAll hu
  change SlRep h9 u (stampsL x) G at ru
  have bw : Bk h9 h.n (x.cs v0 v1 v2 v3 v4 v5 v6 v7 v8 v9 v10) 0 := bk_auto
  (repeat' first|refine vs ?_|(refine br ?_ ?_<;>intro _<;>try(exfalso;first|omega|contradiction))|((with_reducible refine g_callf n_slices_ContainsFunc_int ?_);(refine aw_rcall_b (s_slices_ContainsFunc_int ru (fun n => s_stampsOk_2 (x := x) (n := n) (at_bk bw))) ?_ ?_ <;> intro hn <;> first | replace hn := bp_true hn | replace hn := bp_false hn))|((with_reducible refine g_idx ?_);((first|refine ix ?_|refine ixi ?_|(refine ixg ?_;intro _ _)|(refine ixgi ?_;intro _ _));first|rintro _ _ _ _ _ ⟨rfl,rfl⟩ _|rintro _ _ _ _ _ ⟨_,rfl,_⟩ _|rintro _ _ _ _ _ ⟨_,_,_,_,rfl,rfl,_,_⟩ _|intro _ _ _ _ _ _ _))|(refine sx ?_;intro _ _)|((with_reducible refine g_awp ?_);simp only [g0,g1,g2]))
  · refine pf fun k => ?_
    rename_i hn
    obtain ⟨n, hn, hp⟩ := hn
    simp only [decide_eq_true_eq] at hp
    have := k.2 n hn
    omega
  · refine pt ⟨hu, fun n hn2 => ?_⟩
    rename_i hn
    by_cases hlt : n < x.next
    · exact hlt
    · exact absurd ⟨n, hn2, by simp only [decide_eq_true_eq]; omega⟩ hn
end Go.Proofs.YtideefohbkhhhaaGreat
