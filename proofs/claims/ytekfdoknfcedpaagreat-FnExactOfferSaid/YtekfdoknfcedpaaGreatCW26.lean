import Derived.Test.YtekfdoknfcedpaaGreatCKW3
/- Worlds: which may be, by the reference. -/
set_option linter.unusedSimpArgs false
set_option linter.unusedVariables false
set_option maxHeartbeats 8000000
namespace Go.Proofs.YtekfdoknfcedpaaGreat
open Go Go.Ab
section
/- spec.WorldOk -/
abbrev q_spec_WorldOk_1 (v147 : AV) (v1 : AV) (vs137 : List AV) : Prog := Ld 20 v147 fun a=>Cl n_spec_DeedOk [a] fun a=>.op (.una .not a) fun a=>Gf a false 17 v147 fun b=>Gf a false 12 v1 fun c=>.gop a false (.bin 0 .geq b c) fun b=>Pk a (.bool true) b fun a=>Gf a false 18 v147 fun b=>Gf a false 12 v1 fun c=>.gop a false (.bin 0 .geq b c) fun b=>Pk a (.bool true) b fun a=>Gf a false 19 v147 fun b=>Gf a false 12 v1 fun c=>.gop a false (.bin 0 .geq b c) fun b=>Pk a (.bool true) b fun a=>.ite a (.fin [.val (.bool false)]) (Bn .add (g vs137 0) (.int .i64 1) fun a=>.leaf 0 [a])
abbrev q_spec_WorldOk_2 (v97 : AV) (v1 : AV) (v100 : AV) : Prog := .gop v97 false (.fad 0 v1) fun a=>Gf v97 false 4 a fun a=>.gop v97 false (.bin 0 .gtr v100 a) fun a=>Pk v97 (.bool true) a fun a=>Gf a false 29 v1 fun b=>.gop a false (.len 0 b) fun b=>.gop a false (.bin 0 .neq b (.int .i64 5)) fun b=>Pk a (.bool true) b fun a=>.ite a (.fin [.val (.bool false)]) (.loop [.int .i64 0] (fun a=>Lg 27 v1 fun b=>Ln 0 b fun b=>Bn .lss (g a 0) b fun b=>.ite b (Lg 27 v1 fun b=>Ix 7 b (g a 0) fun b=>Ld 7 b fun b=>Cl n_spec_ItemOk [b] fun b=>.op (.una .not b) fun b=>.ite b (.fin [.val (.bool false)]) (Bn .add (g a 0) (.int .i64 1) fun a=>.leaf 0 [a])) (.leaf 2 [g a 0])) fun a b=>tsel a 1 (.leaf 1 b) (tsel a 2 (.loop [.int .i64 0] (fun a=>Lg 28 v1 fun b=>Ln 0 b fun b=>Bn .lss (g a 0) b fun b=>.ite b (Lg 28 v1 fun b=>Ix 7 b (g a 0) fun b=>Ld 7 b fun b=>Cl n_spec_ItemOk [b] fun b=>.op (.una .not b) fun b=>.ite b (.fin [.val (.bool false)]) (Bn .add (g a 0) (.int .i64 1) fun a=>.leaf 0 [a])) (.leaf 4 [g a 0])) fun a b=>tsel a 1 (.leaf 1 b) (tsel a 4 (.loop [.int .i64 0] (fun a=>Lg 30 v1 fun b=>Ln 0 b fun b=>Bn .lss (g a 0) b fun b=>.ite b (Lg 30 v1 fun b=>Ix 20 b (g a 0) fun b=>Ld 20 b fun b=>.op (.alloc z20_1ff) fun c=>.op (.st 20 c b) fun _=>q_spec_WorldOk_1 c v1 a) (.leaf 6 [g a 0])) fun a b=>tsel a 1 (.leaf 1 b) (tsel a 6 (Ld 32 v1 fun a=>Cl n_spec_l16Stamps [a] fun a=>.gop a true (.ldn 32 v1) fun b=>.gop a true (.call n_spec_l16Tasks [b]) fun b=>Pk a b (.bool false) fun a=>.fin [.val a]) .bad)) .bad)) .bad))
abbrev q_spec_WorldOk_3 (v77 : AV) (v80 : AV) (v1 : AV) : Prog := .gop v77 false (.una .not v80) fun a=>Pk v77 (.bool true) a fun a=>.gop a false (.fad 22 v1) fun b=>Gf a false 0 b fun b=>.gop a false (.bin 0 .gtr b (.int .i64 100000)) fun b=>Pk a (.bool true) b fun a=>Gf a false 13 v1 fun b=>.gop a false (.mv b) fun b=>.gop b true (.fad 22 v1) fun c=>.gop b true (.ldn 4 c) fun c=>.gop b true (.call n_spec_Timers [c]) fun c=>.gop b true (.len 0 c) fun c=>.gop b true (.bin 0 .gtr c (.int .i64 0)) fun c=>.gop a false (.pick b c (.bool false)) fun b=>Pk a (.bool true) b fun a=>Gf a false 27 v1 fun b=>.gop a false (.len 0 b) fun b=>q_spec_WorldOk_2 a v1 b
abbrev q_spec_WorldOk_4 (v55 : AV) (v57 : AV) (v60 : AV) (v1 : AV) : Prog := .gop v55 false (.call n_spec_CacheOk [v57, v60]) fun a=>.gop v55 false (.una .not a) fun a=>Pk v55 (.bool true) a fun a=>.gop a false (.fad 21 v1) fun b=>.gop a false (.ld1 b) fun c=>Gf a false 14 v1 fun d=>.gop a false (.call n_spec_HeldBytes [d]) fun d=>.gchk a false (.ld1 b) c (.gop a false (.bin 0 .neq c d) fun b=>Pk a (.bool true) b fun a=>Gf a false 21 v1 fun b=>.gop a false (.fad 0 v1) fun c=>Gf a false 2 c fun c=>.gop a false (.bin 0 .gtr b c) fun b=>Pk a (.bool true) b fun a=>.gop a false (.fad 22 v1) fun b=>.gop a false (.ldn 4 b) fun b=>.gop a false (.call n_spec_WheelOk [b]) fun b=>q_spec_WorldOk_3 a b v1)
abbrev q_spec_WorldOk_5 (v39 : AV) (v40 : AV) (v1 : AV) : Prog := Gf v39 false 1 v40 fun a=>.gop v39 false (.fad 0 v1) fun b=>Gf v39 false 6 b fun b=>.gop v39 false (.bin 0 .neq a b) fun a=>Pk v39 (.bool true) a fun a=>.gop a false (.fad 16 v1) fun b=>Gf a false 3 b fun b=>.gop a false (.fad 22 v1) fun c=>Gf a false 0 c fun c=>.gop a false (.bin 0 .gtr b c) fun b=>Pk a (.bool true) b fun a=>Gf a false 20 v1 fun b=>.gop a false (.fad 0 v1) fun c=>Gf a false 3 c fun c=>q_spec_WorldOk_4 a b c v1
abbrev q_spec_WorldOk_6 (v18 : AV) (v20 : AV) (v1 : AV) : Prog := .gop v18 false (.len 0 v20) fun a=>.gop v18 false (.fad 0 v1) fun b=>Gf v18 false 0 b fun b=>.gop v18 false (.bin 0 .neq a b) fun a=>Pk v18 (.bool true) a fun a=>.gop a false (.fad 16 v1) fun b=>.gop a false (.ldn 4 b) fun b=>.gop a false (.call n_spec_BucketOk [b]) fun b=>.gop a false (.una .not b) fun b=>Pk a (.bool true) b fun a=>.gop a false (.fad 16 v1) fun b=>Gf a false 0 b fun b=>.gop a false (.fad 0 v1) fun c=>Gf a false 5 c fun c=>.gop a false (.bin 0 .neq b c) fun b=>Pk a (.bool true) b fun a=>.gop a false (.fad 16 v1) fun b=>q_spec_WorldOk_5 a b v1
def p_spec_WorldOk (x0 : AV) : Prog := .op (.box x0) fun a=>.op (.fad 0 a) fun b=>Ld 12 b fun b=>Cl n_spec_ConfOk [b] fun b=>.op (.una .not b) fun b=>Gf b false 12 a fun c=>.gop b false (.bin 0 .lss c (.int .i64 0)) fun c=>Pk b (.bool true) c fun b=>Gf b false 31 a fun c=>.gop b false (.bin 0 .lss c (.int .i64 1)) fun c=>Pk b (.bool true) c fun b=>Gf b false 14 a fun c=>.gop b false (.call n_spec_StripesOk [c]) fun c=>.gop b false (.una .not c) fun c=>Pk b (.bool true) c fun b=>Gf b false 14 a fun c=>q_spec_WorldOk_6 b c a
theorem c_spec_WorldOk (x0 : AV) : CC Tryz.prog n_spec_WorldOk [x0] (p_spec_WorldOk x0) := cc Tryz.func30 [1, 3, 4, 5] (fun r => if r = 1 then [(0, []), (1, []), (2, []), (3, []), (4, []), (5, []), (6, []), (7, []), (8, []), (9, []), (10, []), (11, []), (12, []), (13, []), (14, []), (15, []), (16, []), (17, []), (18, []), (19, []), (20, []), (21, []), (22, []), (23, []), (24, []), (25, []), (26, []), (27, []), (28, []), (29, []), (30, []), (31, []), (32, []), (33, []), (34, []), (35, []), (36, []), (37, []), (38, []), (39, []), (40, []), (41, []), (42, []), (43, []), (44, []), (45, []), (46, []), (47, []), (48, []), (49, []), (50, []), (51, []), (52, []), (53, []), (54, []), (55, []), (56, []), (57, []), (58, []), (59, []), (60, []), (61, []), (62, []), (63, []), (64, []), (65, []), (66, []), (67, []), (68, []), (69, []), (70, []), (71, []), (72, []), (73, []), (74, []), (75, []), (76, [73]), (77, []), (78, []), (79, []), (80, []), (81, []), (82, []), (83, []), (84, []), (85, []), (86, []), (87, []), (88, []), (89, []), (90, []), (91, []), (92, []), (93, []), (94, []), (95, []), (96, []), (97, []), (98, []), (99, []), (100, []), (101, []), (102, []), (103, []), (104, []), (105, []), (106, []), (107, []), (108, []), (109, []), (110, []), (111, []), (112, []), (113, []), (114, []), (115, []), (116, []), (117, []), (118, []), (119, []), (120, []), (121, []), (122, []), (123, []), (124, [])] else [])
end
def worldOk (x : Wld) : Prop := valsOk x ∧ (x.tasks.length : Int) = 5 ∧ stampsS x ∧ tasksQ x
theorem s_spec_WorldOk {h : AH} {x : Wld} {cs : List AV} {F : List Nat} (ok : Cel.ok x) (hs : Sz.sz x ≤ 67108864) (r : Cel.rep h x cs F) :
    RCalls Tryz.prog n_spec_WorldOk [.agg cs] h (.bool (bp (worldOk x))) := by
  have ok0 := ok
  have hs0 := hs
  obtain ⟨v0, v1, v2, v3, v4, v5, v6, v7, v8, v9, v10, F0, F1, F2, F3, F4, F5, F6, F7, F8, F9, F10, rfl, rfl, r0, r1, r2, r3, r4, r5, r6, r7, r8, r9, r10⟩ := r
  obtain ⟨ok_c, ok_time, ok_st, ok_ruleHeld, ok_b, ok_cache, ok_used, ok_w, ok_due, ok_queue, ok_out, ok_tasks, ok_deeds, ok_next⟩ := ok
  have hs : Sz.sz x.c + (x.st.length + szs x.st) + (x.cache.length + szs x.cache) + Sz.sz x.w + (x.due.length + szs x.due) + (x.queue.length + szs x.queue) + (x.out.length + szs x.out) + (x.tasks.length + szs x.tasks) + (x.deeds.length + szs x.deeds) ≤ 67108864 := hs
  have hcs : Sz.sz x.c = Sz.sz x.c.rule := rfl
  have hl1 := r1.small
  have hl6 := r6.small
  have hl7 := r7.small
  have hl8 := r8.small
  have hl9 := r9.small
  have hl10 := r10.small
  refine reader (c_spec_WorldOk _) (by simp only [old]) ?_
  unfold p_spec_WorldOk
  (repeat' first|refine vs ?_|((with_reducible refine g_gopb x.shut ?_);generalize hsh : x.shut = bsh;cases bsh)|(refine br ?_ ?_<;>intro _<;>try(exfalso;first|omega|contradiction))|((with_reducible refine g_callf n_spec_ConfOk ?_);(refine aw_rcall_b (s_spec_ConfOk (c := x.c) ok_c.2.2.2.2.2.2.2 om_auto slr_auto) ?_ ?_ <;> intro hn <;> first | replace hn := bp_true hn | replace hn := bp_false hn))|((with_reducible refine g_callf n_spec_StripesOk ?_);(refine aw_rcall_b (s_spec_StripesOk ok_st om_auto slr_auto) ?_ ?_ <;> intro hn <;> first | replace hn := bp_true hn | replace hn := bp_false hn))|((with_reducible refine g_callf n_spec_WheelOk ?_);(refine aw_rcall_b (s_spec_WheelOk (w := x.w) om_auto slr_auto slr_auto slr_auto) ?_ ?_ <;> intro hn <;> first | replace hn := bp_true hn | replace hn := bp_false hn))|((with_reducible refine g_callf n_spec_Timers ?_);(refine aw_call (s_spec_Timers (w := x.w) om_auto slr_auto slr_auto slr_auto) ?_; rintro _ _ ⟨e_, _, _, _⟩; have n_ := e_.1; (try simp only [push_n, upd_n] at n_)))|((with_reducible refine g_callf n_spec_BucketOk ?_);(refine aw_rcall_b (s_spec_BucketOk (b := x.b)) ?_ ?_ <;> intro hn <;> first | replace hn := bp_true hn | replace hn := bp_false hn))|((with_reducible refine g_callf n_spec_CacheOk ?_);(refine aw_rcall_b (s_spec_CacheOk slr_auto) ?_ ?_ <;> intro hn <;> first | replace hn := bp_true hn | replace hn := bp_false hn))|((with_reducible refine g_callf n_spec_HeldBytes ?_);refine aw_rcall (s_spec_HeldBytes (l := x.st) om_auto slr_auto) ?_)|((with_reducible refine g_idx ?_);((first|refine ix ?_|refine ixi ?_|(refine ixg ?_;intro _ _)|(refine ixgi ?_;intro _ _));first|rintro _ _ _ _ _ ⟨rfl,rfl⟩ _|rintro _ _ _ _ _ ⟨_,rfl,_⟩ _|rintro _ _ _ _ _ ⟨_,_,_,_,rfl,rfl,_,_⟩ _|intro _ _ _ _ _ _ _))|(refine sx ?_;intro _ _)|((with_reducible refine g_awp ?_);simp only [g0,g1,g2]))
  all_goals first
    | (refine pf fun k => ?_; obtain ⟨⟨a1, a2, a3, a4, a5, a6, a7, a8, a9, a10, a11, a12, a13, a14, a15, a16, a17, a18, a19⟩, b1, b2⟩ := k; first | contradiction | omega | (have a20 := a15 (by assumption); omega))
    | skip
  all_goals
    refine aw_upto x.queue.length (fun i vs h1 => vs = [.int .i64 (i : Int)] ∧ i ≤ x.queue.length ∧ Ext (h.push ⟨(x.cs v0 v1 v2 v3 v4 v5 v6 v7 v8 v9 v10), 0, 0⟩) h1 ∧ Upto x.queue (fun _ y => itemOk y) i) ⟨rfl, Nat.zero_le _, ext_auto, up0⟩ ?_
    rintro i vs h1 _ ⟨rfl, hi, e1, hu⟩
    simp only [g0]
    refine vs ?_
    refine br (fun hlt => ?_) (fun hge => ?_)
    · obtain ⟨t, ht, -, -⟩ := drop_step (show i < x.queue.length by omega)
      have hm := List.mem_of_getElem? ht
      have hsz := szs_mem hm
      (repeat' first|refine vs ?_|(refine br ?_ ?_<;>intro _<;>try(exfalso;first|omega|contradiction))|((with_reducible refine g_callf n_spec_ItemOk ?_);(refine aw_rcall_b (s_spec_ItemOk (x := t) (ok_queue t hm).2 (by omega) slr_auto) ?_ ?_ <;> intro hn <;> first | replace hn := bp_true hn | replace hn := bp_false hn))|((with_reducible refine g_idx ?_);((first|refine ix ?_|refine ixi ?_|(refine ixg ?_;intro _ _)|(refine ixgi ?_;intro _ _));first|rintro _ _ _ _ _ ⟨rfl,rfl⟩ _|rintro _ _ _ _ _ ⟨_,rfl,_⟩ _|rintro _ _ _ _ _ ⟨_,_,_,_,rfl,rfl,_,_⟩ _|intro _ _ _ _ _ _ _))|(refine sx ?_;intro _ _)|((with_reducible refine g_awp ?_);simp only [g0,g1,g2]))
      all_goals first
        | exact pf fun k => upNot ht (by assumption) k.1.2.2.2.2.2.2.2.2.2.2.2.2.2.2.2.2.1
        | exact ⟨by omega, rfl, by omega, ext_auto, upS hu ht (by assumption)⟩
    have ei : i = x.queue.length := by omega
    rw [ei] at hu
    have hQ := upAll hu
    clear hi hge hu ei
    (repeat' first|refine vs ?_|(refine br ?_ ?_<;>intro _<;>try(exfalso;first|omega|contradiction))|((with_reducible refine g_idx ?_);((first|refine ix ?_|refine ixi ?_|(refine ixg ?_;intro _ _)|(refine ixgi ?_;intro _ _));first|rintro _ _ _ _ _ ⟨rfl,rfl⟩ _|rintro _ _ _ _ _ ⟨_,rfl,_⟩ _|rintro _ _ _ _ _ ⟨_,_,_,_,rfl,rfl,_,_⟩ _|intro _ _ _ _ _ _ _))|(refine sx ?_;intro _ _)|((with_reducible refine g_awp ?_);simp only [g0,g1,g2]))
    refine aw_upto x.out.length (fun i vs h2 => vs = [.int .i64 (i : Int)] ∧ i ≤ x.out.length ∧ Ext (h.push ⟨(x.cs v0 v1 v2 v3 v4 v5 v6 v7 v8 v9 v10), 0, 0⟩) h2 ∧ Upto x.out (fun _ y => itemOk y) i) ⟨rfl, Nat.zero_le _, ext_auto, up0⟩ ?_
    clear e1
    rintro i vs h2 _ ⟨rfl, hi, e1, hu⟩
    simp only [g0]
    refine vs ?_
    refine br (fun hlt => ?_) (fun hge => ?_)
    · obtain ⟨t, ht, -, -⟩ := drop_step (show i < x.out.length by omega)
      have hm := List.mem_of_getElem? ht
      have hsz := szs_mem hm
      (repeat' first|refine vs ?_|(refine br ?_ ?_<;>intro _<;>try(exfalso;first|omega|contradiction))|((with_reducible refine g_callf n_spec_ItemOk ?_);(refine aw_rcall_b (s_spec_ItemOk (x := t) (ok_out t hm).2 (by omega) slr_auto) ?_ ?_ <;> intro hn <;> first | replace hn := bp_true hn | replace hn := bp_false hn))|((with_reducible refine g_idx ?_);((first|refine ix ?_|refine ixi ?_|(refine ixg ?_;intro _ _)|(refine ixgi ?_;intro _ _));first|rintro _ _ _ _ _ ⟨rfl,rfl⟩ _|rintro _ _ _ _ _ ⟨_,rfl,_⟩ _|rintro _ _ _ _ _ ⟨_,_,_,_,rfl,rfl,_,_⟩ _|intro _ _ _ _ _ _ _))|(refine sx ?_;intro _ _)|((with_reducible refine g_awp ?_);simp only [g0,g1,g2]))
      all_goals first
        | exact pf fun k => upNot ht (by assumption) k.1.2.2.2.2.2.2.2.2.2.2.2.2.2.2.2.2.2.1
        | exact ⟨by omega, rfl, by omega, ext_auto, upS hu ht (by assumption)⟩
    have ei : i = x.out.length := by omega
    rw [ei] at hu
    have hO := upAll hu
    clear hi hge hu ei
    (repeat' first|refine vs ?_|(refine br ?_ ?_<;>intro _<;>try(exfalso;first|omega|contradiction))|((with_reducible refine g_idx ?_);((first|refine ix ?_|refine ixi ?_|(refine ixg ?_;intro _ _)|(refine ixgi ?_;intro _ _));first|rintro _ _ _ _ _ ⟨rfl,rfl⟩ _|rintro _ _ _ _ _ ⟨_,rfl,_⟩ _|rintro _ _ _ _ _ ⟨_,_,_,_,rfl,rfl,_,_⟩ _|intro _ _ _ _ _ _ _))|(refine sx ?_;intro _ _)|((with_reducible refine g_awp ?_);simp only [g0,g1,g2]))
    refine aw_upto x.deeds.length (fun i vs h2 => vs = [.int .i64 (i : Int)] ∧ i ≤ x.deeds.length ∧ Ext (h.push ⟨(x.cs v0 v1 v2 v3 v4 v5 v6 v7 v8 v9 v10), 0, 0⟩) h2 ∧ Upto x.deeds (fun _ d => deedOk d ∧ d.inv < x.time ∧ d.lin < x.time ∧ d.res < x.time) i) ⟨rfl, Nat.zero_le _, ext_auto, up0⟩ ?_
    clear e1
    rintro i vs h2 _ ⟨rfl, hi, e1, hu⟩
    simp only [g0]
    refine vs ?_
    refine br (fun hlt => ?_) (fun hge => ?_)
    · obtain ⟨t, ht, -, -⟩ := drop_step (show i < x.deeds.length by omega)
      (repeat' first|refine vs ?_|(refine br ?_ ?_<;>intro _<;>try(exfalso;first|omega|contradiction))|((with_reducible refine g_callf n_spec_DeedOk ?_);(refine aw_rcall_b (s_spec_DeedOk (d := t)) ?_ ?_ <;> intro hn <;> first | replace hn := bp_true hn | replace hn := bp_false hn))|((with_reducible refine g_idx ?_);((first|refine ix ?_|refine ixi ?_|(refine ixg ?_;intro _ _)|(refine ixgi ?_;intro _ _));first|rintro _ _ _ _ _ ⟨rfl,rfl⟩ _|rintro _ _ _ _ _ ⟨_,rfl,_⟩ _|rintro _ _ _ _ _ ⟨_,_,_,_,rfl,rfl,_,_⟩ _|intro _ _ _ _ _ _ _))|(refine sx ?_;intro _ _)|((with_reducible refine g_awp ?_);simp only [g0,g1,g2]))
      all_goals first
        | (refine pf fun k => upNot ht (by rintro ⟨a1, a2⟩; first | contradiction | omega) k.1.2.2.2.2.2.2.2.2.2.2.2.2.2.2.2.2.2.2)
        | exact ⟨by omega, rfl, by omega, ext_auto, upS hu ht ⟨by assumption, by omega⟩⟩
    have ei : i = x.deeds.length := by omega
    rw [ei] at hu
    have hdeeds := upAll hu
    have hV : valsOk x := ⟨by assumption, by omega, by omega, by assumption, by omega, by assumption, by omega, by omega, by omega, by assumption, by omega, by omega, by assumption, by omega, by intro hh; first | omega | (rw [hsh] at hh; cases hh), by omega, hQ, hO, hdeeds⟩
    (repeat' first|refine vs ?_|(refine br ?_ ?_<;>intro _<;>try(exfalso;first|omega|contradiction))|((with_reducible refine g_callf n_spec_l16Stamps ?_);(refine aw_rcall_b (s_spec_l16Stamps (x := x) om_auto ok0 hs0 ⟨_, _, _, _, _, _, _, _, _, _, _, _, _, _, _, _, _, _, _, _, _, _, rfl, rfl, slr_auto, slr_auto, slr_auto, slr_auto, slr_auto, slr_auto, slr_auto, slr_auto, slr_auto, slr_auto, slr_auto⟩) ?_ ?_ <;> intro hn <;> first | replace hn := bp_true hn | replace hn := bp_false hn))|((with_reducible refine g_callf n_spec_l16Tasks ?_);(refine aw_rcall_b (s_spec_l16Tasks (x := x) ok0 hs0 ⟨_, _, _, _, _, _, _, _, _, _, _, _, _, _, _, _, _, _, _, _, _, _, rfl, rfl, slr_auto, slr_auto, slr_auto, slr_auto, slr_auto, slr_auto, slr_auto, slr_auto, slr_auto, slr_auto, slr_auto⟩) ?_ ?_ <;> intro hn <;> first | replace hn := bp_true hn | replace hn := bp_false hn))|((with_reducible refine g_idx ?_);((first|refine ix ?_|refine ixi ?_|(refine ixg ?_;intro _ _)|(refine ixgi ?_;intro _ _));first|rintro _ _ _ _ _ ⟨rfl,rfl⟩ _|rintro _ _ _ _ _ ⟨_,rfl,_⟩ _|rintro _ _ _ _ _ ⟨_,_,_,_,rfl,rfl,_,_⟩ _|intro _ _ _ _ _ _ _))|(refine sx ?_;intro _ _)|((with_reducible refine g_awp ?_);simp only [g0,g1,g2]))
    all_goals first
      | exact pt ⟨hV, by omega, by assumption, by assumption⟩
      | exact pf fun k => by first | exact absurd k.2.2.1 (by assumption) | exact absurd k.2.2.2 (by assumption)
end Go.Proofs.YtekfdoknfcedpaaGreat
