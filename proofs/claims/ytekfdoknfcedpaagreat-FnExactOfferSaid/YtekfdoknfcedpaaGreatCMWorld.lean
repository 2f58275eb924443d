import Derived.Test.YtekfdoknfcedpaaGreatCKM
/- Marks of worlds. Written by mkmw2.py. -/
set_option linter.unusedSimpArgs false
set_option linter.unusedVariables false
set_option maxHeartbeats 8000000
namespace Go.Proofs.YtekfdoknfcedpaaGreat
open Go Go.Ab
section
/- laws.markWorld -/
def p_laws_markWorld (x0 x1 : AV) : Prog := .op (.box x0) fun a=>.op (.fad 0 a) fun b=>Ld 12 b fun b=>Cl n_laws_markConf [b, x1] fun b=>Lg 14 a fun c=>Cl n_laws_markStripeS [c, b] fun b=>Lg 20 a fun c=>Cl n_laws_markVerdictS [c, b] fun b=>.op (.fad 22 a) fun c=>Ld 4 c fun c=>Cl n_laws_markWheel [c, b] fun b=>Lg 26 a fun c=>Cl n_laws_markTimerS [c, b] fun b=>Lg 27 a fun c=>Cl n_laws_markItemS [c, b] fun b=>Lg 28 a fun c=>Cl n_laws_markItemS [c, b] fun b=>Lg 29 a fun c=>Cl n_laws_markTaskS [c, b] fun b=>Lg 30 a fun a=>Cl n_laws_markDeedS [a, b] fun a=>.fin [.val a]
theorem c_laws_markWorld (x0 x1 : AV) : CC Tryz.prog n_laws_markWorld [x0, x1] (p_laws_markWorld x0 x1) := cc Tryz.func11
/- laws.heldWorld -/
def p_laws_heldWorld (x0 x1 : AV) : Prog := .op (.box x0) fun a=>.op (.fad 0 a) fun b=>Ld 12 b fun b=>Cl n_laws_heldConf [b, x1] fun b=>Bn .lss b (.int .i64 0) fun c=>.ite c (.fin [.val (.int .i64 (-1))]) (Lg 14 a fun c=>Cl n_laws_heldStripeS [c, b] fun b=>Bn .lss b (.int .i64 0) fun c=>.ite c (.fin [.val (.int .i64 (-1))]) (Lg 20 a fun c=>Cl n_laws_heldVerdictS [c, b] fun b=>Bn .lss b (.int .i64 0) fun c=>.ite c (.fin [.val (.int .i64 (-1))]) (.op (.fad 22 a) fun c=>Ld 4 c fun c=>Cl n_laws_heldWheel [c, b] fun b=>Bn .lss b (.int .i64 0) fun c=>.ite c (.fin [.val (.int .i64 (-1))]) (Lg 26 a fun c=>Cl n_laws_heldTimerS [c, b] fun b=>Bn .lss b (.int .i64 0) fun c=>.ite c (.fin [.val (.int .i64 (-1))]) (Lg 27 a fun c=>Cl n_laws_heldItemS [c, b] fun b=>Bn .lss b (.int .i64 0) fun c=>.ite c (.fin [.val (.int .i64 (-1))]) (Lg 28 a fun c=>Cl n_laws_heldItemS [c, b] fun b=>Bn .lss b (.int .i64 0) fun c=>.ite c (.fin [.val (.int .i64 (-1))]) (Lg 29 a fun c=>Cl n_laws_heldTaskS [c, b] fun b=>Bn .lss b (.int .i64 0) fun c=>.ite c (.fin [.val (.int .i64 (-1))]) (Lg 30 a fun a=>Cl n_laws_heldDeedS [a, b] fun a=>Bn .lss a (.int .i64 0) fun b=>.ite b (.fin [.val (.int .i64 (-1))]) (.fin [.val a])))))))))
theorem c_laws_heldWorld (x0 x1 : AV) : CC Tryz.prog n_laws_heldWorld [x0, x1] (p_laws_heldWorld x0 x1) := cc Tryz.func12
end
section
variable (m : Int) (x : Wld)
def wm0 : Int := (mks (m) x.c.rule.l).2
def wm1 : Int := (mks (wm0 m x) x.st).2
def wm2 : Int := (mks (wm1 m x) x.cache).2
def wm3 : Int := (mkWheel (wm2 m x) x.w).2
def wm6 : Int := (mks (wm3 m x) x.due).2
def wm7 : Int := (mks (wm6 m x) x.queue).2
def wm8 : Int := (mks (wm7 m x) x.out).2
def wm9 : Int := (mks (wm8 m x) x.tasks).2
def wm10 : Int := (mks (wm9 m x) x.deeds).2
def mkWorld : Wld := ⟨⟨x.c.stripes, x.c.wait, x.c.budget, x.c.cache, x.c.queue, x.c.rate, x.c.burst, .mk x.c.rule.kind x.c.rule.n x.c.rule.key x.c.rule.text (mks m x.c.rule.l).1⟩, x.time, x.shut, (mks (wm0 m x) x.st).1, x.ruleHeld, x.b, (mks (wm1 m x) x.cache).1, x.used, (mkWheel (wm2 m x) x.w).1, (mks (wm3 m x) x.due).1, (mks (wm6 m x) x.queue).1, (mks (wm7 m x) x.out).1, (mks (wm8 m x) x.tasks).1, (mks (wm9 m x) x.deeds).1, x.next⟩
def mkWorldN : Int := wm10 m x
end
theorem mkWorldN_b (m : Int) (x : Wld) : mkWorldN m x ≤ m + 32 * (Sz.sz x : Nat) := by
  have hs : Sz.sz x = (x.c.rule.key.size + x.c.rule.text.size + (x.c.rule.l.length + szs x.c.rule.l)) + (x.st.length + szs x.st) + (x.cache.length + szs x.cache) + ((x.w.near.length + szs x.w.near) + (x.w.far.length + szs x.w.far) + (x.w.rest.length + szs x.w.rest)) + (x.due.length + szs x.due) + (x.queue.length + szs x.queue) + (x.out.length + szs x.out) + (x.tasks.length + szs x.tasks) + (x.deeds.length + szs x.deeds) := by rw [← Pol.sz_eq]; rfl
  have c0 : wm0 m x ≤ _ := mks_cnt32 x.c.rule.l m
  have c1 : wm1 m x ≤ _ := mks_cnt32 x.st (wm0 m x)
  have c2 : wm2 m x ≤ _ := mks_cnt32 x.cache (wm1 m x)
  have c6 : wm6 m x ≤ _ := mks_cnt32 x.due (wm3 m x)
  have c7 : wm7 m x ≤ _ := mks_cnt32 x.queue (wm6 m x)
  have c8 : wm8 m x ≤ _ := mks_cnt32 x.out (wm7 m x)
  have c9 : wm9 m x ≤ _ := mks_cnt32 x.tasks (wm8 m x)
  have c10 : wm10 m x ≤ _ := mks_cnt32 x.deeds (wm9 m x)
  have c3 : (mks (wm2 m x) x.w.near).2 ≤ _ := mks_cnt32 x.w.near (wm2 m x)
  have c4 : (mks (mks (wm2 m x) x.w.near).2 x.w.far).2 ≤ _ := mks_cnt32 x.w.far (mks (wm2 m x) x.w.near).2
  have c5 : wm3 m x ≤ _ := mks_cnt32 x.w.rest (mks (mks (wm2 m x) x.w.near).2 x.w.far).2
  show wm10 m x ≤ _
  omega
theorem mkWorldN_up (m : Int) (x : Wld) : m ≤ mkWorldN m x := by
  have u0 := mks_upF x.c.rule.l m
  have u1 := mks_upF x.st (wm0 m x)
  have u2 := mks_upF x.cache (wm1 m x)
  have u3 := mkWheel_up (wm2 m x) x.w
  have u6 := mks_upF x.due (wm3 m x)
  have u7 := mks_upF x.queue (wm6 m x)
  have u8 := mks_upF x.out (wm7 m x)
  have u9 := mks_upF x.tasks (wm8 m x)
  have u10 := mks_upF x.deeds (wm9 m x)
  have g0 : (mks m x.c.rule.l).2 = wm0 m x := rfl
  have g1 : (mks (wm0 m x) x.st).2 = wm1 m x := rfl
  have g2 : (mks (wm1 m x) x.cache).2 = wm2 m x := rfl
  have g3 : (mkWheel (wm2 m x) x.w).2 = wm3 m x := rfl
  have g6 : (mks (wm3 m x) x.due).2 = wm6 m x := rfl
  have g7 : (mks (wm6 m x) x.queue).2 = wm7 m x := rfl
  have g8 : (mks (wm7 m x) x.out).2 = wm8 m x := rfl
  have g9 : (mks (wm8 m x) x.tasks).2 = wm9 m x := rfl
  have g10 : (mks (wm9 m x) x.deeds).2 = wm10 m x := rfl
  show m ≤ wm10 m x
  omega
theorem s_laws_markWorld {x : Wld} {cs : List AV} {F : List Nat} {n : Nat} {m : Int} {h : AH} (r : Cel.rep h x cs F) (o : Own n h F) (h0 : 0 ≤ m) (h1 : mkWorldN m x ≤ 1099511627776) :
    ACalls Tryz.prog n_laws_markWorld [.agg cs, .int .i64 m] h fun r h' => r = .int .i64 (mkWorldN m x) ∧ Kp h h' F ∧ Cel.rep h' (mkWorld m x) cs F ∧ Own n h' F := by
  obtain ⟨v0, v1, v2, v3, v4, v5, v6, v7, v8, v9, v10, F0, F1, F2, F3, F4, F5, F6, F7, F8, F9, F10, rfl, rfl, r0, r1, r2, r3, r4, r5, r6, r7, r8, r9, r10⟩ := r
  have u0 := mks_upF x.c.rule.l m
  have u1 := mks_upF x.st (wm0 m x)
  have u2 := mks_upF x.cache (wm1 m x)
  have u3 := mkWheel_up (wm2 m x) x.w
  have u6 := mks_upF x.due (wm3 m x)
  have u7 := mks_upF x.queue (wm6 m x)
  have u8 := mks_upF x.out (wm7 m x)
  have u9 := mks_upF x.tasks (wm8 m x)
  have u10 := mks_upF x.deeds (wm9 m x)
  have g0 : (mks m x.c.rule.l).2 = wm0 m x := rfl
  have g1 : (mks (wm0 m x) x.st).2 = wm1 m x := rfl
  have g2 : (mks (wm1 m x) x.cache).2 = wm2 m x := rfl
  have g3 : (mkWheel (wm2 m x) x.w).2 = wm3 m x := rfl
  have g6 : (mks (wm3 m x) x.due).2 = wm6 m x := rfl
  have g7 : (mks (wm6 m x) x.queue).2 = wm7 m x := rfl
  have g8 : (mks (wm7 m x) x.out).2 = wm8 m x := rfl
  have g9 : (mks (wm8 m x) x.tasks).2 = wm9 m x := rfl
  have g10 : (mks (wm9 m x) x.deeds).2 = wm10 m x := rfl
  have hm : wm10 m x ≤ 1099511627776 := h1
  have o0 := own_l (o)
  have d0 := own_d (o)
  have o1 := own_l (own_r (o))
  have d1 := own_d (own_r (o))
  have o2 := own_l (own_r (own_r (o)))
  have d2 := own_d (own_r (own_r (o)))
  have o3 := own_l (own_r (own_r (own_r (o))))
  have d3 := own_d (own_r (own_r (own_r (o))))
  have o4 := own_l (own_r (own_r (own_r (own_r (o)))))
  have d4 := own_d (own_r (own_r (own_r (own_r (o)))))
  have o5 := own_l (own_r (own_r (own_r (own_r (own_r (o))))))
  have d5 := own_d (own_r (own_r (own_r (own_r (own_r (o))))))
  have o6 := own_l (own_r (own_r (own_r (own_r (own_r (own_r (o)))))))
  have d6 := own_d (own_r (own_r (own_r (own_r (own_r (own_r (o)))))))
  have o7 := own_l (own_r (own_r (own_r (own_r (own_r (own_r (own_r (o))))))))
  have d7 := own_d (own_r (own_r (own_r (own_r (own_r (own_r (own_r (o))))))))
  have o8 := own_l (own_r (own_r (own_r (own_r (own_r (own_r (own_r (own_r (o)))))))))
  have d8 := own_d (own_r (own_r (own_r (own_r (own_r (own_r (own_r (own_r (o)))))))))
  have o9 := own_l (own_r (own_r (own_r (own_r (own_r (own_r (own_r (own_r (own_r (o))))))))))
  have d9 := own_d (own_r (own_r (own_r (own_r (own_r (own_r (own_r (own_r (own_r (o))))))))))
  have o10 := own_r (own_r (own_r (own_r (own_r (own_r (own_r (own_r (own_r (own_r (o))))))))))
  have d0_1 : ∀ c ∈ F0, c ∉ F1 := dis_l (d0)
  have d1_0 : ∀ c ∈ F1, c ∉ F0 := fun c a b => d0_1 c b a
  have d0_2 : ∀ c ∈ F0, c ∉ F2 := dis_l (dis_r (d0))
  have d2_0 : ∀ c ∈ F2, c ∉ F0 := fun c a b => d0_2 c b a
  have d0_3 : ∀ c ∈ F0, c ∉ F3 := dis_l (dis_r (dis_r (d0)))
  have d3_0 : ∀ c ∈ F3, c ∉ F0 := fun c a b => d0_3 c b a
  have d0_4 : ∀ c ∈ F0, c ∉ F4 := dis_l (dis_r (dis_r (dis_r (d0))))
  have d4_0 : ∀ c ∈ F4, c ∉ F0 := fun c a b => d0_4 c b a
  have d0_5 : ∀ c ∈ F0, c ∉ F5 := dis_l (dis_r (dis_r (dis_r (dis_r (d0)))))
  have d5_0 : ∀ c ∈ F5, c ∉ F0 := fun c a b => d0_5 c b a
  have d0_6 : ∀ c ∈ F0, c ∉ F6 := dis_l (dis_r (dis_r (dis_r (dis_r (dis_r (d0))))))
  have d6_0 : ∀ c ∈ F6, c ∉ F0 := fun c a b => d0_6 c b a
  have d0_7 : ∀ c ∈ F0, c ∉ F7 := dis_l (dis_r (dis_r (dis_r (dis_r (dis_r (dis_r (d0)))))))
  have d7_0 : ∀ c ∈ F7, c ∉ F0 := fun c a b => d0_7 c b a
  have d0_8 : ∀ c ∈ F0, c ∉ F8 := dis_l (dis_r (dis_r (dis_r (dis_r (dis_r (dis_r (dis_r (d0))))))))
  have d8_0 : ∀ c ∈ F8, c ∉ F0 := fun c a b => d0_8 c b a
  have d0_9 : ∀ c ∈ F0, c ∉ F9 := dis_l (dis_r (dis_r (dis_r (dis_r (dis_r (dis_r (dis_r (dis_r (d0)))))))))
  have d9_0 : ∀ c ∈ F9, c ∉ F0 := fun c a b => d0_9 c b a
  have d0_10 : ∀ c ∈ F0, c ∉ F10 := dis_r (dis_r (dis_r (dis_r (dis_r (dis_r (dis_r (dis_r (dis_r (d0)))))))))
  have d10_0 : ∀ c ∈ F10, c ∉ F0 := fun c a b => d0_10 c b a
  have d1_2 : ∀ c ∈ F1, c ∉ F2 := dis_l (d1)
  have d2_1 : ∀ c ∈ F2, c ∉ F1 := fun c a b => d1_2 c b a
  have d1_3 : ∀ c ∈ F1, c ∉ F3 := dis_l (dis_r (d1))
  have d3_1 : ∀ c ∈ F3, c ∉ F1 := fun c a b => d1_3 c b a
  have d1_4 : ∀ c ∈ F1, c ∉ F4 := dis_l (dis_r (dis_r (d1)))
  have d4_1 : ∀ c ∈ F4, c ∉ F1 := fun c a b => d1_4 c b a
  have d1_5 : ∀ c ∈ F1, c ∉ F5 := dis_l (dis_r (dis_r (dis_r (d1))))
  have d5_1 : ∀ c ∈ F5, c ∉ F1 := fun c a b => d1_5 c b a
  have d1_6 : ∀ c ∈ F1, c ∉ F6 := dis_l (dis_r (dis_r (dis_r (dis_r (d1)))))
  have d6_1 : ∀ c ∈ F6, c ∉ F1 := fun c a b => d1_6 c b a
  have d1_7 : ∀ c ∈ F1, c ∉ F7 := dis_l (dis_r (dis_r (dis_r (dis_r (dis_r (d1))))))
  have d7_1 : ∀ c ∈ F7, c ∉ F1 := fun c a b => d1_7 c b a
  have d1_8 : ∀ c ∈ F1, c ∉ F8 := dis_l (dis_r (dis_r (dis_r (dis_r (dis_r (dis_r (d1)))))))
  have d8_1 : ∀ c ∈ F8, c ∉ F1 := fun c a b => d1_8 c b a
  have d1_9 : ∀ c ∈ F1, c ∉ F9 := dis_l (dis_r (dis_r (dis_r (dis_r (dis_r (dis_r (dis_r (d1))))))))
  have d9_1 : ∀ c ∈ F9, c ∉ F1 := fun c a b => d1_9 c b a
  have d1_10 : ∀ c ∈ F1, c ∉ F10 := dis_r (dis_r (dis_r (dis_r (dis_r (dis_r (dis_r (dis_r (d1))))))))
  have d10_1 : ∀ c ∈ F10, c ∉ F1 := fun c a b => d1_10 c b a
  have d2_3 : ∀ c ∈ F2, c ∉ F3 := dis_l (d2)
  have d3_2 : ∀ c ∈ F3, c ∉ F2 := fun c a b => d2_3 c b a
  have d2_4 : ∀ c ∈ F2, c ∉ F4 := dis_l (dis_r (d2))
  have d4_2 : ∀ c ∈ F4, c ∉ F2 := fun c a b => d2_4 c b a
  have d2_5 : ∀ c ∈ F2, c ∉ F5 := dis_l (dis_r (dis_r (d2)))
  have d5_2 : ∀ c ∈ F5, c ∉ F2 := fun c a b => d2_5 c b a
  have d2_6 : ∀ c ∈ F2, c ∉ F6 := dis_l (dis_r (dis_r (dis_r (d2))))
  have d6_2 : ∀ c ∈ F6, c ∉ F2 := fun c a b => d2_6 c b a
  have d2_7 : ∀ c ∈ F2, c ∉ F7 := dis_l (dis_r (dis_r (dis_r (dis_r (d2)))))
  have d7_2 : ∀ c ∈ F7, c ∉ F2 := fun c a b => d2_7 c b a
  have d2_8 : ∀ c ∈ F2, c ∉ F8 := dis_l (dis_r (dis_r (dis_r (dis_r (dis_r (d2))))))
  have d8_2 : ∀ c ∈ F8, c ∉ F2 := fun c a b => d2_8 c b a
  have d2_9 : ∀ c ∈ F2, c ∉ F9 := dis_l (dis_r (dis_r (dis_r (dis_r (dis_r (dis_r (d2)))))))
  have d9_2 : ∀ c ∈ F9, c ∉ F2 := fun c a b => d2_9 c b a
  have d2_10 : ∀ c ∈ F2, c ∉ F10 := dis_r (dis_r (dis_r (dis_r (dis_r (dis_r (dis_r (d2)))))))
  have d10_2 : ∀ c ∈ F10, c ∉ F2 := fun c a b => d2_10 c b a
  have d3_4 : ∀ c ∈ F3, c ∉ F4 := dis_l (d3)
  have d4_3 : ∀ c ∈ F4, c ∉ F3 := fun c a b => d3_4 c b a
  have d3_5 : ∀ c ∈ F3, c ∉ F5 := dis_l (dis_r (d3))
  have d5_3 : ∀ c ∈ F5, c ∉ F3 := fun c a b => d3_5 c b a
  have d3_6 : ∀ c ∈ F3, c ∉ F6 := dis_l (dis_r (dis_r (d3)))
  have d6_3 : ∀ c ∈ F6, c ∉ F3 := fun c a b => d3_6 c b a
  have d3_7 : ∀ c ∈ F3, c ∉ F7 := dis_l (dis_r (dis_r (dis_r (d3))))
  have d7_3 : ∀ c ∈ F7, c ∉ F3 := fun c a b => d3_7 c b a
  have d3_8 : ∀ c ∈ F3, c ∉ F8 := dis_l (dis_r (dis_r (dis_r (dis_r (d3)))))
  have d8_3 : ∀ c ∈ F8, c ∉ F3 := fun c a b => d3_8 c b a
  have d3_9 : ∀ c ∈ F3, c ∉ F9 := dis_l (dis_r (dis_r (dis_r (dis_r (dis_r (d3))))))
  have d9_3 : ∀ c ∈ F9, c ∉ F3 := fun c a b => d3_9 c b a
  have d3_10 : ∀ c ∈ F3, c ∉ F10 := dis_r (dis_r (dis_r (dis_r (dis_r (dis_r (d3))))))
  have d10_3 : ∀ c ∈ F10, c ∉ F3 := fun c a b => d3_10 c b a
  have d4_5 : ∀ c ∈ F4, c ∉ F5 := dis_l (d4)
  have d5_4 : ∀ c ∈ F5, c ∉ F4 := fun c a b => d4_5 c b a
  have d4_6 : ∀ c ∈ F4, c ∉ F6 := dis_l (dis_r (d4))
  have d6_4 : ∀ c ∈ F6, c ∉ F4 := fun c a b => d4_6 c b a
  have d4_7 : ∀ c ∈ F4, c ∉ F7 := dis_l (dis_r (dis_r (d4)))
  have d7_4 : ∀ c ∈ F7, c ∉ F4 := fun c a b => d4_7 c b a
  have d4_8 : ∀ c ∈ F4, c ∉ F8 := dis_l (dis_r (dis_r (dis_r (d4))))
  have d8_4 : ∀ c ∈ F8, c ∉ F4 := fun c a b => d4_8 c b a
  have d4_9 : ∀ c ∈ F4, c ∉ F9 := dis_l (dis_r (dis_r (dis_r (dis_r (d4)))))
  have d9_4 : ∀ c ∈ F9, c ∉ F4 := fun c a b => d4_9 c b a
  have d4_10 : ∀ c ∈ F4, c ∉ F10 := dis_r (dis_r (dis_r (dis_r (dis_r (d4)))))
  have d10_4 : ∀ c ∈ F10, c ∉ F4 := fun c a b => d4_10 c b a
  have d5_6 : ∀ c ∈ F5, c ∉ F6 := dis_l (d5)
  have d6_5 : ∀ c ∈ F6, c ∉ F5 := fun c a b => d5_6 c b a
  have d5_7 : ∀ c ∈ F5, c ∉ F7 := dis_l (dis_r (d5))
  have d7_5 : ∀ c ∈ F7, c ∉ F5 := fun c a b => d5_7 c b a
  have d5_8 : ∀ c ∈ F5, c ∉ F8 := dis_l (dis_r (dis_r (d5)))
  have d8_5 : ∀ c ∈ F8, c ∉ F5 := fun c a b => d5_8 c b a
  have d5_9 : ∀ c ∈ F5, c ∉ F9 := dis_l (dis_r (dis_r (dis_r (d5))))
  have d9_5 : ∀ c ∈ F9, c ∉ F5 := fun c a b => d5_9 c b a
  have d5_10 : ∀ c ∈ F5, c ∉ F10 := dis_r (dis_r (dis_r (dis_r (d5))))
  have d10_5 : ∀ c ∈ F10, c ∉ F5 := fun c a b => d5_10 c b a
  have d6_7 : ∀ c ∈ F6, c ∉ F7 := dis_l (d6)
  have d7_6 : ∀ c ∈ F7, c ∉ F6 := fun c a b => d6_7 c b a
  have d6_8 : ∀ c ∈ F6, c ∉ F8 := dis_l (dis_r (d6))
  have d8_6 : ∀ c ∈ F8, c ∉ F6 := fun c a b => d6_8 c b a
  have d6_9 : ∀ c ∈ F6, c ∉ F9 := dis_l (dis_r (dis_r (d6)))
  have d9_6 : ∀ c ∈ F9, c ∉ F6 := fun c a b => d6_9 c b a
  have d6_10 : ∀ c ∈ F6, c ∉ F10 := dis_r (dis_r (dis_r (d6)))
  have d10_6 : ∀ c ∈ F10, c ∉ F6 := fun c a b => d6_10 c b a
  have d7_8 : ∀ c ∈ F7, c ∉ F8 := dis_l (d7)
  have d8_7 : ∀ c ∈ F8, c ∉ F7 := fun c a b => d7_8 c b a
  have d7_9 : ∀ c ∈ F7, c ∉ F9 := dis_l (dis_r (d7))
  have d9_7 : ∀ c ∈ F9, c ∉ F7 := fun c a b => d7_9 c b a
  have d7_10 : ∀ c ∈ F7, c ∉ F10 := dis_r (dis_r (d7))
  have d10_7 : ∀ c ∈ F10, c ∉ F7 := fun c a b => d7_10 c b a
  have d8_9 : ∀ c ∈ F8, c ∉ F9 := dis_l (d8)
  have d9_8 : ∀ c ∈ F9, c ∉ F8 := fun c a b => d8_9 c b a
  have d8_10 : ∀ c ∈ F8, c ∉ F10 := dis_r (d8)
  have d10_8 : ∀ c ∈ F10, c ∉ F8 := fun c a b => d8_10 c b a
  have d9_10 : ∀ c ∈ F9, c ∉ F10 := d9
  have d10_9 : ∀ c ∈ F10, c ∉ F9 := fun c a b => d9_10 c b a
  clear d0 d1 d2 d3 d4 d5 d6 d7 d8 d9
  refine c_laws_markWorld _ _ ?_
  unfold p_laws_markWorld
  refine aw_box rfl ?_
  obtain ⟨H, hH⟩ : ∃ H, H = h.push ⟨x.cs v0 v1 v2 v3 v4 v5 v6 v7 v8 v9 v10, 0, 0⟩ := ⟨_, rfl⟩
  rw [← hH]
  have e : Ext h H := by rw [hH]; exact (Ext.refl h).push _
  have b : Bk H h.n (x.cs v0 v1 v2 v3 v4 v5 v6 v7 v8 v9 v10) 0 := by rw [hH]; exact bk_push
  have K : Kp h H (F0 ++ (F1 ++ (F2 ++ (F3 ++ (F4 ++ (F5 ++ (F6 ++ (F7 ++ (F8 ++ (F9 ++ F10)))))))))) := Kp.of_ext e
  have lt : ∀ c ∈ F0 ++ (F1 ++ (F2 ++ (F3 ++ (F4 ++ (F5 ++ (F6 ++ (F7 ++ (F8 ++ (F9 ++ F10))))))))), c < h.n := fun c hc => by
    simp only [List.mem_append] at hc
    rcases hc with g | g | g | g | g | g | g | g | g | g | g
    · exact r0.lt c g
    · exact r1.lt c g
    · exact r2.lt c g
    · exact r3.lt c g
    · exact r4.lt c g
    · exact r5.lt c g
    · exact r6.lt c g
    · exact r7.lt c g
    · exact r8.lt c g
    · exact r9.lt c g
    · exact r10.lt c g
  have nb0 : h.n ∉ F0 := fun g => Nat.lt_irrefl _ (r0.lt _ g)
  have nb1 : h.n ∉ F1 := fun g => Nat.lt_irrefl _ (r1.lt _ g)
  have nb2 : h.n ∉ F2 := fun g => Nat.lt_irrefl _ (r2.lt _ g)
  have nb3 : h.n ∉ F3 := fun g => Nat.lt_irrefl _ (r3.lt _ g)
  have nb4 : h.n ∉ F4 := fun g => Nat.lt_irrefl _ (r4.lt _ g)
  have nb5 : h.n ∉ F5 := fun g => Nat.lt_irrefl _ (r5.lt _ g)
  have nb6 : h.n ∉ F6 := fun g => Nat.lt_irrefl _ (r6.lt _ g)
  have nb7 : h.n ∉ F7 := fun g => Nat.lt_irrefl _ (r7.lt _ g)
  have nb8 : h.n ∉ F8 := fun g => Nat.lt_irrefl _ (r8.lt _ g)
  have nb9 : h.n ∉ F9 := fun g => Nat.lt_irrefl _ (r9.lt _ g)
  have nb10 : h.n ∉ F10 := fun g => Nat.lt_irrefl _ (r10.lt _ g)
  have OO := o.ext e lt
  have LT : ∀ c ∈ F0 ++ (F1 ++ (F2 ++ (F3 ++ (F4 ++ (F5 ++ (F6 ++ (F7 ++ (F8 ++ (F9 ++ F10))))))))), c < H.n := fun c hc => Nat.lt_of_lt_of_le (lt c hc) e.1
  replace o0 := o0.ext e r0.lt
  replace r0 := r0.ext e
  replace o1 := o1.ext e r1.lt
  replace r1 := r1.ext e
  replace o2 := o2.ext e r2.lt
  replace r2 := r2.ext e
  replace o3 := o3.ext e r3.lt
  replace r3 := r3.ext e
  replace o4 := o4.ext e r4.lt
  replace r4 := r4.ext e
  replace o5 := o5.ext e r5.lt
  replace r5 := r5.ext e
  replace o6 := o6.ext e r6.lt
  replace r6 := r6.ext e
  replace o7 := o7.ext e r7.lt
  replace r7 := r7.ext e
  replace o8 := o8.ext e r8.lt
  replace r8 := r8.ext e
  replace o9 := o9.ext e r9.lt
  replace r9 := r9.ext e
  replace o10 := o10.ext e r10.lt
  replace r10 := r10.ext e
  clear e hH
  (repeat' first|refine vs ?_|(refine br ?_ ?_<;>intro _<;>try(exfalso;first|omega|contradiction))|((with_reducible refine g_idx ?_);((first|refine ix ?_|refine ixi ?_|(refine ixg ?_;intro _ _)|(refine ixgi ?_;intro _ _));first|rintro _ _ _ _ _ ⟨rfl,rfl⟩ _|rintro _ _ _ _ _ ⟨_,rfl,_⟩ _|rintro _ _ _ _ _ ⟨_,_,_,_,rfl,rfl,_,_⟩ _|intro _ _ _ _ _ _ _))|(refine sx ?_;intro _ _)|((with_reducible refine g_awp ?_);simp only [g0,g1,g2]))
  refine aw_call (s_laws_markConf (x := x.c) r0 o0 h0 (by omega)) ?_
  rintro _ h2 ⟨rfl, k1, r0, p0⟩
  replace OO := own_step OO LT k1 p0
  replace LT : ∀ c ∈ F0 ++ (F1 ++ (F2 ++ (F3 ++ (F4 ++ (F5 ++ (F6 ++ (F7 ++ (F8 ++ (F9 ++ F10))))))))), c < h2.n := fun c hc => Nat.lt_of_lt_of_le (LT c hc) k1.1
  replace o1 := (ol_kp1 k1 ⟨o1, r1.lt⟩ (d1_0)).1
  replace r1 := slr_kp1 k1 r1 (d1_0)
  replace o2 := (ol_kp1 k1 ⟨o2, r2.lt⟩ (d2_0)).1
  replace r2 := slr_kp1 k1 r2 (d2_0)
  replace o3 := (ol_kp1 k1 ⟨o3, r3.lt⟩ (d3_0)).1
  replace r3 := slr_kp1 k1 r3 (d3_0)
  replace o4 := (ol_kp1 k1 ⟨o4, r4.lt⟩ (d4_0)).1
  replace r4 := slr_kp1 k1 r4 (d4_0)
  replace o5 := (ol_kp1 k1 ⟨o5, r5.lt⟩ (d5_0)).1
  replace r5 := slr_kp1 k1 r5 (d5_0)
  replace o6 := (ol_kp1 k1 ⟨o6, r6.lt⟩ (d6_0)).1
  replace r6 := slr_kp1 k1 r6 (d6_0)
  replace o7 := (ol_kp1 k1 ⟨o7, r7.lt⟩ (d7_0)).1
  replace r7 := slr_kp1 k1 r7 (d7_0)
  replace o8 := (ol_kp1 k1 ⟨o8, r8.lt⟩ (d8_0)).1
  replace r8 := slr_kp1 k1 r8 (d8_0)
  replace o9 := (ol_kp1 k1 ⟨o9, r9.lt⟩ (d9_0)).1
  replace r9 := slr_kp1 k1 r9 (d9_0)
  replace o10 := (ol_kp1 k1 ⟨o10, r10.lt⟩ (d10_0)).1
  replace r10 := slr_kp1 k1 r10 (d10_0)
  replace b := bk_kp1 k1 b nb0
  replace K := K.trans (k1.mono fun c hc => by simp [hc])
  clear k1
  (repeat' first|refine vs ?_|(refine br ?_ ?_<;>intro _<;>try(exfalso;first|omega|contradiction))|((with_reducible refine g_idx ?_);((first|refine ix ?_|refine ixi ?_|(refine ixg ?_;intro _ _)|(refine ixgi ?_;intro _ _));first|rintro _ _ _ _ _ ⟨rfl,rfl⟩ _|rintro _ _ _ _ _ ⟨_,rfl,_⟩ _|rintro _ _ _ _ _ ⟨_,_,_,_,rfl,rfl,_,_⟩ _|intro _ _ _ _ _ _ _))|(refine sx ?_;intro _ _)|((with_reducible refine g_awp ?_);simp only [g0,g1,g2]))
  refine aw_call (s_laws_markStripeS _ _ F1 n (wm0 m x) _ r1 o1 (by omega) (by omega)) ?_
  rintro _ h3 ⟨rfl, k1, r1, p1⟩
  replace OO := own_step OO LT k1 p1
  replace LT : ∀ c ∈ F0 ++ (F1 ++ (F2 ++ (F3 ++ (F4 ++ (F5 ++ (F6 ++ (F7 ++ (F8 ++ (F9 ++ F10))))))))), c < h3.n := fun c hc => Nat.lt_of_lt_of_le (LT c hc) k1.1
  replace r0 := slr_kp1 k1 r0 (d0_1)
  replace o2 := (ol_kp1 k1 ⟨o2, r2.lt⟩ (d2_1)).1
  replace r2 := slr_kp1 k1 r2 (d2_1)
  replace o3 := (ol_kp1 k1 ⟨o3, r3.lt⟩ (d3_1)).1
  replace r3 := slr_kp1 k1 r3 (d3_1)
  replace o4 := (ol_kp1 k1 ⟨o4, r4.lt⟩ (d4_1)).1
  replace r4 := slr_kp1 k1 r4 (d4_1)
  replace o5 := (ol_kp1 k1 ⟨o5, r5.lt⟩ (d5_1)).1
  replace r5 := slr_kp1 k1 r5 (d5_1)
  replace o6 := (ol_kp1 k1 ⟨o6, r6.lt⟩ (d6_1)).1
  replace r6 := slr_kp1 k1 r6 (d6_1)
  replace o7 := (ol_kp1 k1 ⟨o7, r7.lt⟩ (d7_1)).1
  replace r7 := slr_kp1 k1 r7 (d7_1)
  replace o8 := (ol_kp1 k1 ⟨o8, r8.lt⟩ (d8_1)).1
  replace r8 := slr_kp1 k1 r8 (d8_1)
  replace o9 := (ol_kp1 k1 ⟨o9, r9.lt⟩ (d9_1)).1
  replace r9 := slr_kp1 k1 r9 (d9_1)
  replace o10 := (ol_kp1 k1 ⟨o10, r10.lt⟩ (d10_1)).1
  replace r10 := slr_kp1 k1 r10 (d10_1)
  replace b := bk_kp1 k1 b nb1
  replace K := K.trans (k1.mono fun c hc => by simp [hc])
  clear k1
  (repeat' first|refine vs ?_|(refine br ?_ ?_<;>intro _<;>try(exfalso;first|omega|contradiction))|((with_reducible refine g_idx ?_);((first|refine ix ?_|refine ixi ?_|(refine ixg ?_;intro _ _)|(refine ixgi ?_;intro _ _));first|rintro _ _ _ _ _ ⟨rfl,rfl⟩ _|rintro _ _ _ _ _ ⟨_,rfl,_⟩ _|rintro _ _ _ _ _ ⟨_,_,_,_,rfl,rfl,_,_⟩ _|intro _ _ _ _ _ _ _))|(refine sx ?_;intro _ _)|((with_reducible refine g_awp ?_);simp only [g0,g1,g2]))
  refine aw_call (s_laws_markVerdictS _ _ F2 n (wm1 m x) _ r2 o2 (by omega) (by omega)) ?_
  rintro _ h4 ⟨rfl, k1, r2, p2⟩
  replace OO := own_step OO LT k1 p2
  replace LT : ∀ c ∈ F0 ++ (F1 ++ (F2 ++ (F3 ++ (F4 ++ (F5 ++ (F6 ++ (F7 ++ (F8 ++ (F9 ++ F10))))))))), c < h4.n := fun c hc => Nat.lt_of_lt_of_le (LT c hc) k1.1
  replace r0 := slr_kp1 k1 r0 (d0_2)
  replace r1 := slr_kp1 k1 r1 (d1_2)
  replace o3 := (ol_kp1 k1 ⟨o3, r3.lt⟩ (d3_2)).1
  replace r3 := slr_kp1 k1 r3 (d3_2)
  replace o4 := (ol_kp1 k1 ⟨o4, r4.lt⟩ (d4_2)).1
  replace r4 := slr_kp1 k1 r4 (d4_2)
  replace o5 := (ol_kp1 k1 ⟨o5, r5.lt⟩ (d5_2)).1
  replace r5 := slr_kp1 k1 r5 (d5_2)
  replace o6 := (ol_kp1 k1 ⟨o6, r6.lt⟩ (d6_2)).1
  replace r6 := slr_kp1 k1 r6 (d6_2)
  replace o7 := (ol_kp1 k1 ⟨o7, r7.lt⟩ (d7_2)).1
  replace r7 := slr_kp1 k1 r7 (d7_2)
  replace o8 := (ol_kp1 k1 ⟨o8, r8.lt⟩ (d8_2)).1
  replace r8 := slr_kp1 k1 r8 (d8_2)
  replace o9 := (ol_kp1 k1 ⟨o9, r9.lt⟩ (d9_2)).1
  replace r9 := slr_kp1 k1 r9 (d9_2)
  replace o10 := (ol_kp1 k1 ⟨o10, r10.lt⟩ (d10_2)).1
  replace r10 := slr_kp1 k1 r10 (d10_2)
  replace b := bk_kp1 k1 b nb2
  replace K := K.trans (k1.mono fun c hc => by simp [hc])
  clear k1
  (repeat' first|refine vs ?_|(refine br ?_ ?_<;>intro _<;>try(exfalso;first|omega|contradiction))|((with_reducible refine g_idx ?_);((first|refine ix ?_|refine ixi ?_|(refine ixg ?_;intro _ _)|(refine ixgi ?_;intro _ _));first|rintro _ _ _ _ _ ⟨rfl,rfl⟩ _|rintro _ _ _ _ _ ⟨_,rfl,_⟩ _|rintro _ _ _ _ _ ⟨_,_,_,_,rfl,rfl,_,_⟩ _|intro _ _ _ _ _ _ _))|(refine sx ?_;intro _ _)|((with_reducible refine g_awp ?_);simp only [g0,g1,g2]))
  refine aw_call (s_laws_markWheel (x := x.w) (m := wm2 m x) r3 r4 r5 (own_app o3 (own_app o4 o5 (Nat.le_refl _) d4_5) (Nat.le_refl _) (dis_appR d3_4 d3_5)) (by omega) (by omega)) ?_
  rintro _ h5 ⟨rfl, k1, r3, r4, r5, p3⟩
  replace OO := own_step OO LT k1 p3
  replace LT : ∀ c ∈ F0 ++ (F1 ++ (F2 ++ (F3 ++ (F4 ++ (F5 ++ (F6 ++ (F7 ++ (F8 ++ (F9 ++ F10))))))))), c < h5.n := fun c hc => Nat.lt_of_lt_of_le (LT c hc) k1.1
  replace r0 := slr_kp1 k1 r0 (dis_appR d0_3 (dis_appR d0_4 d0_5))
  replace r1 := slr_kp1 k1 r1 (dis_appR d1_3 (dis_appR d1_4 d1_5))
  replace r2 := slr_kp1 k1 r2 (dis_appR d2_3 (dis_appR d2_4 d2_5))
  replace o6 := (ol_kp1 k1 ⟨o6, r6.lt⟩ (dis_appR d6_3 (dis_appR d6_4 d6_5))).1
  replace r6 := slr_kp1 k1 r6 (dis_appR d6_3 (dis_appR d6_4 d6_5))
  replace o7 := (ol_kp1 k1 ⟨o7, r7.lt⟩ (dis_appR d7_3 (dis_appR d7_4 d7_5))).1
  replace r7 := slr_kp1 k1 r7 (dis_appR d7_3 (dis_appR d7_4 d7_5))
  replace o8 := (ol_kp1 k1 ⟨o8, r8.lt⟩ (dis_appR d8_3 (dis_appR d8_4 d8_5))).1
  replace r8 := slr_kp1 k1 r8 (dis_appR d8_3 (dis_appR d8_4 d8_5))
  replace o9 := (ol_kp1 k1 ⟨o9, r9.lt⟩ (dis_appR d9_3 (dis_appR d9_4 d9_5))).1
  replace r9 := slr_kp1 k1 r9 (dis_appR d9_3 (dis_appR d9_4 d9_5))
  replace o10 := (ol_kp1 k1 ⟨o10, r10.lt⟩ (dis_appR d10_3 (dis_appR d10_4 d10_5))).1
  replace r10 := slr_kp1 k1 r10 (dis_appR d10_3 (dis_appR d10_4 d10_5))
  replace b := bk_kp1 k1 b (by simp [nb3, nb4, nb5])
  replace K := K.trans (k1.mono fun c hc => by simp only [List.mem_append] at hc ⊢; rcases hc with g | g | g <;> simp [g])
  clear k1
  (repeat' first|refine vs ?_|(refine br ?_ ?_<;>intro _<;>try(exfalso;first|omega|contradiction))|((with_reducible refine g_idx ?_);((first|refine ix ?_|refine ixi ?_|(refine ixg ?_;intro _ _)|(refine ixgi ?_;intro _ _));first|rintro _ _ _ _ _ ⟨rfl,rfl⟩ _|rintro _ _ _ _ _ ⟨_,rfl,_⟩ _|rintro _ _ _ _ _ ⟨_,_,_,_,rfl,rfl,_,_⟩ _|intro _ _ _ _ _ _ _))|(refine sx ?_;intro _ _)|((with_reducible refine g_awp ?_);simp only [g0,g1,g2]))
  refine aw_call (s_laws_markTimerS _ _ F6 n (wm3 m x) _ r6 o6 (by omega) (by omega)) ?_
  rintro _ h6 ⟨rfl, k1, r6, p6⟩
  replace OO := own_step OO LT k1 p6
  replace LT : ∀ c ∈ F0 ++ (F1 ++ (F2 ++ (F3 ++ (F4 ++ (F5 ++ (F6 ++ (F7 ++ (F8 ++ (F9 ++ F10))))))))), c < h6.n := fun c hc => Nat.lt_of_lt_of_le (LT c hc) k1.1
  replace r0 := slr_kp1 k1 r0 (d0_6)
  replace r1 := slr_kp1 k1 r1 (d1_6)
  replace r2 := slr_kp1 k1 r2 (d2_6)
  replace r3 := slr_kp1 k1 r3 (d3_6)
  replace r4 := slr_kp1 k1 r4 (d4_6)
  replace r5 := slr_kp1 k1 r5 (d5_6)
  replace o7 := (ol_kp1 k1 ⟨o7, r7.lt⟩ (d7_6)).1
  replace r7 := slr_kp1 k1 r7 (d7_6)
  replace o8 := (ol_kp1 k1 ⟨o8, r8.lt⟩ (d8_6)).1
  replace r8 := slr_kp1 k1 r8 (d8_6)
  replace o9 := (ol_kp1 k1 ⟨o9, r9.lt⟩ (d9_6)).1
  replace r9 := slr_kp1 k1 r9 (d9_6)
  replace o10 := (ol_kp1 k1 ⟨o10, r10.lt⟩ (d10_6)).1
  replace r10 := slr_kp1 k1 r10 (d10_6)
  replace b := bk_kp1 k1 b nb6
  replace K := K.trans (k1.mono fun c hc => by simp [hc])
  clear k1
  (repeat' first|refine vs ?_|(refine br ?_ ?_<;>intro _<;>try(exfalso;first|omega|contradiction))|((with_reducible refine g_idx ?_);((first|refine ix ?_|refine ixi ?_|(refine ixg ?_;intro _ _)|(refine ixgi ?_;intro _ _));first|rintro _ _ _ _ _ ⟨rfl,rfl⟩ _|rintro _ _ _ _ _ ⟨_,rfl,_⟩ _|rintro _ _ _ _ _ ⟨_,_,_,_,rfl,rfl,_,_⟩ _|intro _ _ _ _ _ _ _))|(refine sx ?_;intro _ _)|((with_reducible refine g_awp ?_);simp only [g0,g1,g2]))
  refine aw_call (s_laws_markItemS _ _ F7 n (wm6 m x) _ r7 o7 (by omega) (by omega)) ?_
  rintro _ h7 ⟨rfl, k1, r7, p7⟩
  replace OO := own_step OO LT k1 p7
  replace LT : ∀ c ∈ F0 ++ (F1 ++ (F2 ++ (F3 ++ (F4 ++ (F5 ++ (F6 ++ (F7 ++ (F8 ++ (F9 ++ F10))))))))), c < h7.n := fun c hc => Nat.lt_of_lt_of_le (LT c hc) k1.1
  replace r0 := slr_kp1 k1 r0 (d0_7)
  replace r1 := slr_kp1 k1 r1 (d1_7)
  replace r2 := slr_kp1 k1 r2 (d2_7)
  replace r3 := slr_kp1 k1 r3 (d3_7)
  replace r4 := slr_kp1 k1 r4 (d4_7)
  replace r5 := slr_kp1 k1 r5 (d5_7)
  replace r6 := slr_kp1 k1 r6 (d6_7)
  replace o8 := (ol_kp1 k1 ⟨o8, r8.lt⟩ (d8_7)).1
  replace r8 := slr_kp1 k1 r8 (d8_7)
  replace o9 := (ol_kp1 k1 ⟨o9, r9.lt⟩ (d9_7)).1
  replace r9 := slr_kp1 k1 r9 (d9_7)
  replace o10 := (ol_kp1 k1 ⟨o10, r10.lt⟩ (d10_7)).1
  replace r10 := slr_kp1 k1 r10 (d10_7)
  replace b := bk_kp1 k1 b nb7
  replace K := K.trans (k1.mono fun c hc => by simp [hc])
  clear k1
  (repeat' first|refine vs ?_|(refine br ?_ ?_<;>intro _<;>try(exfalso;first|omega|contradiction))|((with_reducible refine g_idx ?_);((first|refine ix ?_|refine ixi ?_|(refine ixg ?_;intro _ _)|(refine ixgi ?_;intro _ _));first|rintro _ _ _ _ _ ⟨rfl,rfl⟩ _|rintro _ _ _ _ _ ⟨_,rfl,_⟩ _|rintro _ _ _ _ _ ⟨_,_,_,_,rfl,rfl,_,_⟩ _|intro _ _ _ _ _ _ _))|(refine sx ?_;intro _ _)|((with_reducible refine g_awp ?_);simp only [g0,g1,g2]))
  refine aw_call (s_laws_markItemS _ _ F8 n (wm7 m x) _ r8 o8 (by omega) (by omega)) ?_
  rintro _ h8 ⟨rfl, k1, r8, p8⟩
  replace OO := own_step OO LT k1 p8
  replace LT : ∀ c ∈ F0 ++ (F1 ++ (F2 ++ (F3 ++ (F4 ++ (F5 ++ (F6 ++ (F7 ++ (F8 ++ (F9 ++ F10))))))))), c < h8.n := fun c hc => Nat.lt_of_lt_of_le (LT c hc) k1.1
  replace r0 := slr_kp1 k1 r0 (d0_8)
  replace r1 := slr_kp1 k1 r1 (d1_8)
  replace r2 := slr_kp1 k1 r2 (d2_8)
  replace r3 := slr_kp1 k1 r3 (d3_8)
  replace r4 := slr_kp1 k1 r4 (d4_8)
  replace r5 := slr_kp1 k1 r5 (d5_8)
  replace r6 := slr_kp1 k1 r6 (d6_8)
  replace r7 := slr_kp1 k1 r7 (d7_8)
  replace o9 := (ol_kp1 k1 ⟨o9, r9.lt⟩ (d9_8)).1
  replace r9 := slr_kp1 k1 r9 (d9_8)
  replace o10 := (ol_kp1 k1 ⟨o10, r10.lt⟩ (d10_8)).1
  replace r10 := slr_kp1 k1 r10 (d10_8)
  replace b := bk_kp1 k1 b nb8
  replace K := K.trans (k1.mono fun c hc => by simp [hc])
  clear k1
  (repeat' first|refine vs ?_|(refine br ?_ ?_<;>intro _<;>try(exfalso;first|omega|contradiction))|((with_reducible refine g_idx ?_);((first|refine ix ?_|refine ixi ?_|(refine ixg ?_;intro _ _)|(refine ixgi ?_;intro _ _));first|rintro _ _ _ _ _ ⟨rfl,rfl⟩ _|rintro _ _ _ _ _ ⟨_,rfl,_⟩ _|rintro _ _ _ _ _ ⟨_,_,_,_,rfl,rfl,_,_⟩ _|intro _ _ _ _ _ _ _))|(refine sx ?_;intro _ _)|((with_reducible refine g_awp ?_);simp only [g0,g1,g2]))
  refine aw_call (s_laws_markTaskS _ _ F9 n (wm8 m x) _ r9 o9 (by omega) (by omega)) ?_
  rintro _ h9 ⟨rfl, k1, r9, p9⟩
  replace OO := own_step OO LT k1 p9
  replace LT : ∀ c ∈ F0 ++ (F1 ++ (F2 ++ (F3 ++ (F4 ++ (F5 ++ (F6 ++ (F7 ++ (F8 ++ (F9 ++ F10))))))))), c < h9.n := fun c hc => Nat.lt_of_lt_of_le (LT c hc) k1.1
  replace r0 := slr_kp1 k1 r0 (d0_9)
  replace r1 := slr_kp1 k1 r1 (d1_9)
  replace r2 := slr_kp1 k1 r2 (d2_9)
  replace r3 := slr_kp1 k1 r3 (d3_9)
  replace r4 := slr_kp1 k1 r4 (d4_9)
  replace r5 := slr_kp1 k1 r5 (d5_9)
  replace r6 := slr_kp1 k1 r6 (d6_9)
  replace r7 := slr_kp1 k1 r7 (d7_9)
  replace r8 := slr_kp1 k1 r8 (d8_9)
  replace o10 := (ol_kp1 k1 ⟨o10, r10.lt⟩ (d10_9)).1
  replace r10 := slr_kp1 k1 r10 (d10_9)
  replace b := bk_kp1 k1 b nb9
  replace K := K.trans (k1.mono fun c hc => by simp [hc])
  clear k1
  (repeat' first|refine vs ?_|(refine br ?_ ?_<;>intro _<;>try(exfalso;first|omega|contradiction))|((with_reducible refine g_idx ?_);((first|refine ix ?_|refine ixi ?_|(refine ixg ?_;intro _ _)|(refine ixgi ?_;intro _ _));first|rintro _ _ _ _ _ ⟨rfl,rfl⟩ _|rintro _ _ _ _ _ ⟨_,rfl,_⟩ _|rintro _ _ _ _ _ ⟨_,_,_,_,rfl,rfl,_,_⟩ _|intro _ _ _ _ _ _ _))|(refine sx ?_;intro _ _)|((with_reducible refine g_awp ?_);simp only [g0,g1,g2]))
  refine aw_call (s_laws_markDeedS _ _ F10 n (wm9 m x) _ r10 o10 (by omega) (by omega)) ?_
  rintro _ h10 ⟨rfl, k1, r10, p10⟩
  replace OO := own_step OO LT k1 p10
  replace LT : ∀ c ∈ F0 ++ (F1 ++ (F2 ++ (F3 ++ (F4 ++ (F5 ++ (F6 ++ (F7 ++ (F8 ++ (F9 ++ F10))))))))), c < h10.n := fun c hc => Nat.lt_of_lt_of_le (LT c hc) k1.1
  replace r0 := slr_kp1 k1 r0 (d0_10)
  replace r1 := slr_kp1 k1 r1 (d1_10)
  replace r2 := slr_kp1 k1 r2 (d2_10)
  replace r3 := slr_kp1 k1 r3 (d3_10)
  replace r4 := slr_kp1 k1 r4 (d4_10)
  replace r5 := slr_kp1 k1 r5 (d5_10)
  replace r6 := slr_kp1 k1 r6 (d6_10)
  replace r7 := slr_kp1 k1 r7 (d7_10)
  replace r8 := slr_kp1 k1 r8 (d8_10)
  replace r9 := slr_kp1 k1 r9 (d9_10)
  replace b := bk_kp1 k1 b nb10
  replace K := K.trans (k1.mono fun c hc => by simp [hc])
  clear k1
  (repeat' first|refine vs ?_|(refine br ?_ ?_<;>intro _<;>try(exfalso;first|omega|contradiction))|((with_reducible refine g_idx ?_);((first|refine ix ?_|refine ixi ?_|(refine ixg ?_;intro _ _)|(refine ixgi ?_;intro _ _));first|rintro _ _ _ _ _ ⟨rfl,rfl⟩ _|rintro _ _ _ _ _ ⟨_,rfl,_⟩ _|rintro _ _ _ _ _ ⟨_,_,_,_,rfl,rfl,_,_⟩ _|intro _ _ _ _ _ _ _))|(refine sx ?_;intro _ _)|((with_reducible refine g_awp ?_);simp only [g0,g1,g2]))
  exact ⟨rfl, _, rfl, rfl, K, ⟨v0, v1, v2, v3, v4, v5, v6, v7, v8, v9, v10, F0, F1, F2, F3, F4, F5, F6, F7, F8, F9, F10, rfl, rfl, r0, r1, r2, r3, r4, r5, r6, r7, r8, r9, r10⟩, OO⟩
theorem s_laws_heldWorld {x : Wld} {cs : List AV} {F : List Nat} {m : Int} {h : AH} (r : Cel.rep h (mkWorld m x) cs F) (h0 : 0 ≤ m) (h1 : mkWorldN m x ≤ 1099511627776) : RCalls Tryz.prog n_laws_heldWorld [.agg cs, .int .i64 m] h (.int .i64 (mkWorldN m x)) := by
  obtain ⟨v0, v1, v2, v3, v4, v5, v6, v7, v8, v9, v10, F0, F1, F2, F3, F4, F5, F6, F7, F8, F9, F10, rfl, rfl, r0, r1, r2, r3, r4, r5, r6, r7, r8, r9, r10⟩ := r
  have u0 := mks_upF x.c.rule.l m
  have u1 := mks_upF x.st (wm0 m x)
  have u2 := mks_upF x.cache (wm1 m x)
  have u3 := mkWheel_up (wm2 m x) x.w
  have u6 := mks_upF x.due (wm3 m x)
  have u7 := mks_upF x.queue (wm6 m x)
  have u8 := mks_upF x.out (wm7 m x)
  have u9 := mks_upF x.tasks (wm8 m x)
  have u10 := mks_upF x.deeds (wm9 m x)
  have g0 : (mks m x.c.rule.l).2 = wm0 m x := rfl
  have g1 : (mks (wm0 m x) x.st).2 = wm1 m x := rfl
  have g2 : (mks (wm1 m x) x.cache).2 = wm2 m x := rfl
  have g3 : (mkWheel (wm2 m x) x.w).2 = wm3 m x := rfl
  have g6 : (mks (wm3 m x) x.due).2 = wm6 m x := rfl
  have g7 : (mks (wm6 m x) x.queue).2 = wm7 m x := rfl
  have g8 : (mks (wm7 m x) x.out).2 = wm8 m x := rfl
  have g9 : (mks (wm8 m x) x.tasks).2 = wm9 m x := rfl
  have g10 : (mks (wm9 m x) x.deeds).2 = wm10 m x := rfl
  have hm : wm10 m x ≤ 1099511627776 := h1
  refine reader (c_laws_heldWorld _ _) (by simp only [old]) ?_
  unfold p_laws_heldWorld
  (repeat' first|refine vs ?_|(refine br ?_ ?_<;>intro _<;>try(exfalso;first|omega|contradiction))|((with_reducible refine g_idx ?_);((first|refine ix ?_|refine ixi ?_|(refine ixg ?_;intro _ _)|(refine ixgi ?_;intro _ _));first|rintro _ _ _ _ _ ⟨rfl,rfl⟩ _|rintro _ _ _ _ _ ⟨_,rfl,_⟩ _|rintro _ _ _ _ _ ⟨_,_,_,_,rfl,rfl,_,_⟩ _|intro _ _ _ _ _ _ _))|(refine sx ?_;intro _ _)|((with_reducible refine g_awp ?_);simp only [g0,g1,g2]))
  refine aw_rcall (s_laws_heldConf (x := x.c) (r0.ext ((Ext.refl h).push _)) h0 (by omega)) ?_
  (repeat' first|refine vs ?_|(refine br ?_ ?_<;>intro _<;>try(exfalso;first|omega|contradiction))|((with_reducible refine g_idx ?_);((first|refine ix ?_|refine ixi ?_|(refine ixg ?_;intro _ _)|(refine ixgi ?_;intro _ _));first|rintro _ _ _ _ _ ⟨rfl,rfl⟩ _|rintro _ _ _ _ _ ⟨_,rfl,_⟩ _|rintro _ _ _ _ _ ⟨_,_,_,_,rfl,rfl,_,_⟩ _|intro _ _ _ _ _ _ _))|(refine sx ?_;intro _ _)|((with_reducible refine g_awp ?_);simp only [g0,g1,g2]))
  refine aw_rcall (s_laws_heldStripeS x.st v1 F1 (wm0 m x) _ (r1.ext ((Ext.refl h).push _)) (by omega) (by omega)) ?_
  (repeat' first|refine vs ?_|(refine br ?_ ?_<;>intro _<;>try(exfalso;first|omega|contradiction))|((with_reducible refine g_idx ?_);((first|refine ix ?_|refine ixi ?_|(refine ixg ?_;intro _ _)|(refine ixgi ?_;intro _ _));first|rintro _ _ _ _ _ ⟨rfl,rfl⟩ _|rintro _ _ _ _ _ ⟨_,rfl,_⟩ _|rintro _ _ _ _ _ ⟨_,_,_,_,rfl,rfl,_,_⟩ _|intro _ _ _ _ _ _ _))|(refine sx ?_;intro _ _)|((with_reducible refine g_awp ?_);simp only [g0,g1,g2]))
  refine aw_rcall (s_laws_heldVerdictS x.cache v2 F2 (wm1 m x) _ (r2.ext ((Ext.refl h).push _)) (by omega) (by omega)) ?_
  (repeat' first|refine vs ?_|(refine br ?_ ?_<;>intro _<;>try(exfalso;first|omega|contradiction))|((with_reducible refine g_idx ?_);((first|refine ix ?_|refine ixi ?_|(refine ixg ?_;intro _ _)|(refine ixgi ?_;intro _ _));first|rintro _ _ _ _ _ ⟨rfl,rfl⟩ _|rintro _ _ _ _ _ ⟨_,rfl,_⟩ _|rintro _ _ _ _ _ ⟨_,_,_,_,rfl,rfl,_,_⟩ _|intro _ _ _ _ _ _ _))|(refine sx ?_;intro _ _)|((with_reducible refine g_awp ?_);simp only [g0,g1,g2]))
  refine aw_rcall (s_laws_heldWheel (x := x.w) (m := wm2 m x) (r3.ext ((Ext.refl h).push _)) (r4.ext ((Ext.refl h).push _)) (r5.ext ((Ext.refl h).push _)) (by omega) (by omega)) ?_
  (repeat' first|refine vs ?_|(refine br ?_ ?_<;>intro _<;>try(exfalso;first|omega|contradiction))|((with_reducible refine g_idx ?_);((first|refine ix ?_|refine ixi ?_|(refine ixg ?_;intro _ _)|(refine ixgi ?_;intro _ _));first|rintro _ _ _ _ _ ⟨rfl,rfl⟩ _|rintro _ _ _ _ _ ⟨_,rfl,_⟩ _|rintro _ _ _ _ _ ⟨_,_,_,_,rfl,rfl,_,_⟩ _|intro _ _ _ _ _ _ _))|(refine sx ?_;intro _ _)|((with_reducible refine g_awp ?_);simp only [g0,g1,g2]))
  refine aw_rcall (s_laws_heldTimerS x.due v6 F6 (wm3 m x) _ (r6.ext ((Ext.refl h).push _)) (by omega) (by omega)) ?_
  (repeat' first|refine vs ?_|(refine br ?_ ?_<;>intro _<;>try(exfalso;first|omega|contradiction))|((with_reducible refine g_idx ?_);((first|refine ix ?_|refine ixi ?_|(refine ixg ?_;intro _ _)|(refine ixgi ?_;intro _ _));first|rintro _ _ _ _ _ ⟨rfl,rfl⟩ _|rintro _ _ _ _ _ ⟨_,rfl,_⟩ _|rintro _ _ _ _ _ ⟨_,_,_,_,rfl,rfl,_,_⟩ _|intro _ _ _ _ _ _ _))|(refine sx ?_;intro _ _)|((with_reducible refine g_awp ?_);simp only [g0,g1,g2]))
  refine aw_rcall (s_laws_heldItemS x.queue v7 F7 (wm6 m x) _ (r7.ext ((Ext.refl h).push _)) (by omega) (by omega)) ?_
  (repeat' first|refine vs ?_|(refine br ?_ ?_<;>intro _<;>try(exfalso;first|omega|contradiction))|((with_reducible refine g_idx ?_);((first|refine ix ?_|refine ixi ?_|(refine ixg ?_;intro _ _)|(refine ixgi ?_;intro _ _));first|rintro _ _ _ _ _ ⟨rfl,rfl⟩ _|rintro _ _ _ _ _ ⟨_,rfl,_⟩ _|rintro _ _ _ _ _ ⟨_,_,_,_,rfl,rfl,_,_⟩ _|intro _ _ _ _ _ _ _))|(refine sx ?_;intro _ _)|((with_reducible refine g_awp ?_);simp only [g0,g1,g2]))
  refine aw_rcall (s_laws_heldItemS x.out v8 F8 (wm7 m x) _ (r8.ext ((Ext.refl h).push _)) (by omega) (by omega)) ?_
  (repeat' first|refine vs ?_|(refine br ?_ ?_<;>intro _<;>try(exfalso;first|omega|contradiction))|((with_reducible refine g_idx ?_);((first|refine ix ?_|refine ixi ?_|(refine ixg ?_;intro _ _)|(refine ixgi ?_;intro _ _));first|rintro _ _ _ _ _ ⟨rfl,rfl⟩ _|rintro _ _ _ _ _ ⟨_,rfl,_⟩ _|rintro _ _ _ _ _ ⟨_,_,_,_,rfl,rfl,_,_⟩ _|intro _ _ _ _ _ _ _))|(refine sx ?_;intro _ _)|((with_reducible refine g_awp ?_);simp only [g0,g1,g2]))
  refine aw_rcall (s_laws_heldTaskS x.tasks v9 F9 (wm8 m x) _ (r9.ext ((Ext.refl h).push _)) (by omega) (by omega)) ?_
  (repeat' first|refine vs ?_|(refine br ?_ ?_<;>intro _<;>try(exfalso;first|omega|contradiction))|((with_reducible refine g_idx ?_);((first|refine ix ?_|refine ixi ?_|(refine ixg ?_;intro _ _)|(refine ixgi ?_;intro _ _));first|rintro _ _ _ _ _ ⟨rfl,rfl⟩ _|rintro _ _ _ _ _ ⟨_,rfl,_⟩ _|rintro _ _ _ _ _ ⟨_,_,_,_,rfl,rfl,_,_⟩ _|intro _ _ _ _ _ _ _))|(refine sx ?_;intro _ _)|((with_reducible refine g_awp ?_);simp only [g0,g1,g2]))
  refine aw_rcall (s_laws_heldDeedS x.deeds v10 F10 (wm9 m x) _ (r10.ext ((Ext.refl h).push _)) (by omega) (by omega)) ?_
  (repeat' first|refine vs ?_|(refine br ?_ ?_<;>intro _<;>try(exfalso;first|omega|contradiction))|((with_reducible refine g_idx ?_);((first|refine ix ?_|refine ixi ?_|(refine ixg ?_;intro _ _)|(refine ixgi ?_;intro _ _));first|rintro _ _ _ _ _ ⟨rfl,rfl⟩ _|rintro _ _ _ _ _ ⟨_,rfl,_⟩ _|rintro _ _ _ _ _ ⟨_,_,_,_,rfl,rfl,_,_⟩ _|intro _ _ _ _ _ _ _))|(refine sx ?_;intro _ _)|((with_reducible refine g_awp ?_);simp only [g0,g1,g2]))
  exact pi rfl
end Go.Proofs.YtekfdoknfcedpaaGreat
