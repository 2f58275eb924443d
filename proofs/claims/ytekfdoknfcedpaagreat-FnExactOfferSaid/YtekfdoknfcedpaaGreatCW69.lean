import Derived.Test.YtekfdoknfcedpaaGreatCKW1
import Derived.Test.YtekfdoknfcedpaaGreatCKW2
import Derived.Test.YtekfdoknfcedpaaGreatCK5
/- Copies of worlds, by the program. -/
set_option linter.unusedSimpArgs false
set_option linter.unusedVariables false
set_option maxHeartbeats 4000000
namespace Go.Proofs.YtekfdoknfcedpaaGreat
open Go Go.Ab
section
/- impl.copyWorld -/
def p_impl_copyWorld (x0 : AV) : Prog := .op (.box x0) fun a=>.op (.alloc z32_253) fun b=>Ld 32 a fun c=>.op (.alloc z32_253) fun d=>.op (.st 32 d c) fun _=>.op (.fad 0 a) fun c=>Ld 12 c fun c=>Cl n_impl_copyConf [c] fun c=>.op (.fad 0 d) fun e=>.op (.st 12 e c) fun _=>Lg 14 a fun c=>Cl n_impl_copyStripes [c] fun c=>Sg 14 d c fun _=>Lg 20 a fun c=>.op (.app 3 24 .nils c) fun c=>Sg 20 d c fun _=>.op (.fad 22 a) fun c=>Ld 4 c fun c=>Cl n_impl_copyWheel [c] fun c=>.op (.fad 22 d) fun e=>.op (.st 4 e c) fun _=>Lg 26 a fun c=>.op (.app 3 24 .nils c) fun c=>Sg 26 d c fun _=>Lg 27 a fun c=>.op (.fad 28 a) fun e=>.op (.ld1 e) fun f=>Cl n_impl_copyItems [c] fun c=>.chk (.ld1 e) f (.op (.fad 27 d) fun e=>Cl n_impl_copyItems [f] fun f=>.op (.st 1 e c) fun _=>Sg 28 d f fun _=>Lg 30 a fun c=>Cl n_impl_copyDeeds [c] fun c=>Sg 30 d c fun _=>Sg 29 d .nils fun _=>Lg 29 a fun a=>Ln 0 a fun c=>.loop [.int .i64 0] (fun b=>Bn .lss (g b 0) c fun c=>.ite c (Ix 12 a (g b 0) fun a=>Ld 12 a fun a=>.op (.alloc z12_f83) fun c=>.op (.st 12 c a) fun _=>.op (.fad 2 c) fun a=>Ld 6 a fun a=>.op (.fad 10 c) fun e=>.op (.ld1 e) fun f=>Cl n_impl_copySpan [a] fun a=>.chk (.ld1 e) f (.op (.fad 2 c) fun e=>Cl n_impl_copyItems [f] fun f=>.op (.st 6 e a) fun _=>Sg 10 c f fun _=>Lg 29 d fun a=>Ld 12 c fun c=>.op (.bslice 12 1 z12_f83 [(0, 12, c)]) fun c=>.op (.app 12 128 a c) fun a=>Sg 29 d a fun _=>Bn .add (g b 0) (.int .i64 1) fun a=>.leaf 0 [a])) (.leaf 2 [g b 0])) fun a c=>tsel a 1 (.leaf 1 c) (tsel a 2 (Ld 32 d fun a=>.op (.st 32 b a) fun _=>.fin [.cn 32 b]) .bad))
theorem c_impl_copyWorld (x0 : AV) : CC Tryz.prog n_impl_copyWorld [x0] (p_impl_copyWorld x0) := cc Tryz.func42 [2, 3, 41, 42, 43] (fun r => if r = 7 then [(0, []), (1, []), (3, []), (4, []), (2, [4]), (6, []), (5, []), (7, []), (8, []), (9, [])] else if r = 13 then [(0, []), (1, []), (3, []), (4, []), (2, [4]), (6, []), (5, []), (7, []), (8, []), (9, [])] else [])
end
theorem wsz (x : Wld) : Sz.sz x = Sz.sz x.c + (x.st.length + szs x.st) + (x.cache.length + szs x.cache) + ((x.w.near.length + szs x.w.near) + (x.w.far.length + szs x.w.far) + (x.w.rest.length + szs x.w.rest)) + (x.due.length + szs x.due) + (x.queue.length + szs x.queue) + (x.out.length + szs x.out) + (x.tasks.length + szs x.tasks) + (x.deeds.length + szs x.deeds) := rfl
theorem s_impl_copyWorld (x : Wld) (hs : Sz.sz x ≤ 67108864) : CopyX Wld Tryz.prog n_impl_copyWorld x := by
  rintro cs F h ⟨v0, v1, v2, v3, v4, v5, v6, v7, v8, v9, v10, F0, F1, F2, F3, F4, F5, F6, F7, F8, F9, F10, rfl, rfl, r0, r1, r2, r3, r4, r5, r6, r7, r8, r9, r10⟩
  rw [wsz] at hs
  have e_w : Sz.sz x.w = (x.w.near.length + szs x.w.near) + (x.w.far.length + szs x.w.far) + (x.w.rest.length + szs x.w.rest) := rfl
  refine c_impl_copyWorld _ ?_
  unfold p_impl_copyWorld
  (repeat' first|refine vs ?_|(refine br ?_ ?_<;>intro _<;>try(exfalso;first|omega|contradiction))|((with_reducible refine g_idx ?_);((first|refine ix ?_|refine ixi ?_|(refine ixg ?_;intro _ _)|(refine ixgi ?_;intro _ _));first|rintro _ _ _ _ _ ⟨rfl,rfl⟩ _|rintro _ _ _ _ _ ⟨_,rfl,_⟩ _|rintro _ _ _ _ _ ⟨_,_,_,_,rfl,rfl,_,_⟩ _|intro _ _ _ _ _ _ _))|(refine sx ?_;intro _ _)|((with_reducible refine g_awp ?_);simp only [g0,g1,g2]))
  refine aw_call (s_impl_copyConf x.c (by omega) _ _ _ ⟨_, rfl, slr_auto⟩) ?_
  rintro _ h1 ⟨e1, _, G0, rfl, ⟨w0, rfl, q0⟩, o0⟩
  have n1 := e1.1; (try simp only [push_n, upd_n] at n1)
  (repeat' first|refine vs ?_|(refine br ?_ ?_<;>intro _<;>try(exfalso;first|omega|contradiction))|((with_reducible refine g_idx ?_);((first|refine ix ?_|refine ixi ?_|(refine ixg ?_;intro _ _)|(refine ixgi ?_;intro _ _));first|rintro _ _ _ _ _ ⟨rfl,rfl⟩ _|rintro _ _ _ _ _ ⟨_,rfl,_⟩ _|rintro _ _ _ _ _ ⟨_,_,_,_,rfl,rfl,_,_⟩ _|intro _ _ _ _ _ _ _))|(refine sx ?_;intro _ _)|((with_reducible refine g_awp ?_);simp only [g0,g1,g2]))
  refine aw_call (s_impl_copyStripes x.st (by omega) _ _ _ slr_auto) ?_
  rintro w1 h2 ⟨e2, G1, q1, o1⟩
  have n2 := e2.1; (try simp only [push_n, upd_n] at n2)
  (repeat' first|refine vs ?_|(refine br ?_ ?_<;>intro _<;>try(exfalso;first|omega|contradiction))|((with_reducible refine g_idx ?_);((first|refine ix ?_|refine ixi ?_|(refine ixg ?_;intro _ _)|(refine ixgi ?_;intro _ _));first|rintro _ _ _ _ _ ⟨rfl,rfl⟩ _|rintro _ _ _ _ _ ⟨_,rfl,_⟩ _|rintro _ _ _ _ _ ⟨_,_,_,_,rfl,rfl,_,_⟩ _|intro _ _ _ _ _ _ _))|(refine sx ?_;intro _ _)|((with_reducible refine g_awp ?_);simp only [g0,g1,g2]))
  refine app0 (ys := x.cache) (slr_auto : SlRep _ v2 x.cache F2) (tail_own r2 _) (Nat.le_refl _) rfl (by omega) ?_
  intro w2 h3 G2 e3 q2 o2
  have n3 := e3.1; (try simp only [push_n, upd_n] at n3)
  (repeat' first|refine vs ?_|(refine br ?_ ?_<;>intro _<;>try(exfalso;first|omega|contradiction))|((with_reducible refine g_idx ?_);((first|refine ix ?_|refine ixi ?_|(refine ixg ?_;intro _ _)|(refine ixgi ?_;intro _ _));first|rintro _ _ _ _ _ ⟨rfl,rfl⟩ _|rintro _ _ _ _ _ ⟨_,rfl,_⟩ _|rintro _ _ _ _ _ ⟨_,_,_,_,rfl,rfl,_,_⟩ _|intro _ _ _ _ _ _ _))|(refine sx ?_;intro _ _)|((with_reducible refine g_awp ?_);simp only [g0,g1,g2]))
  refine aw_call (s_impl_copyWheel x.w (by omega) _ _ _ ⟨_, _, _, _, _, _, rfl, rfl, slr_auto, slr_auto, slr_auto⟩) ?_
  rintro _ h4 ⟨e4, _, _, rfl, ⟨w3, w4, w5, G3, G4, G5, rfl, rfl, q3, q4, q5⟩, o3⟩
  have n4 := e4.1; (try simp only [push_n, upd_n] at n4)
  (repeat' first|refine vs ?_|(refine br ?_ ?_<;>intro _<;>try(exfalso;first|omega|contradiction))|((with_reducible refine g_idx ?_);((first|refine ix ?_|refine ixi ?_|(refine ixg ?_;intro _ _)|(refine ixgi ?_;intro _ _));first|rintro _ _ _ _ _ ⟨rfl,rfl⟩ _|rintro _ _ _ _ _ ⟨_,rfl,_⟩ _|rintro _ _ _ _ _ ⟨_,_,_,_,rfl,rfl,_,_⟩ _|intro _ _ _ _ _ _ _))|(refine sx ?_;intro _ _)|((with_reducible refine g_awp ?_);simp only [g0,g1,g2]))
  refine app0 (ys := x.due) (slr_auto : SlRep _ v6 x.due F6) (tail_own r6 _) (Nat.le_refl _) rfl (by omega) ?_
  intro w6 h5 G6 e5 q6 o6
  have n5 := e5.1; (try simp only [push_n, upd_n] at n5)
  (repeat' first|refine vs ?_|(refine br ?_ ?_<;>intro _<;>try(exfalso;first|omega|contradiction))|((with_reducible refine g_idx ?_);((first|refine ix ?_|refine ixi ?_|(refine ixg ?_;intro _ _)|(refine ixgi ?_;intro _ _));first|rintro _ _ _ _ _ ⟨rfl,rfl⟩ _|rintro _ _ _ _ _ ⟨_,rfl,_⟩ _|rintro _ _ _ _ _ ⟨_,_,_,_,rfl,rfl,_,_⟩ _|intro _ _ _ _ _ _ _))|(refine sx ?_;intro _ _)|((with_reducible refine g_awp ?_);simp only [g0,g1,g2]))
  refine aw_call (s_impl_copyItems x.queue (by omega) _ _ _ slr_auto) ?_
  rintro w7 h6 ⟨e6, G7, q7, o7⟩
  have n6 := e6.1; (try simp only [push_n, upd_n] at n6)
  (repeat' first|refine vs ?_|(refine br ?_ ?_<;>intro _<;>try(exfalso;first|omega|contradiction))|((with_reducible refine g_idx ?_);((first|refine ix ?_|refine ixi ?_|(refine ixg ?_;intro _ _)|(refine ixgi ?_;intro _ _));first|rintro _ _ _ _ _ ⟨rfl,rfl⟩ _|rintro _ _ _ _ _ ⟨_,rfl,_⟩ _|rintro _ _ _ _ _ ⟨_,_,_,_,rfl,rfl,_,_⟩ _|intro _ _ _ _ _ _ _))|(refine sx ?_;intro _ _)|((with_reducible refine g_awp ?_);simp only [g0,g1,g2]))
  refine aw_call (s_impl_copyItems x.out (by omega) _ _ _ slr_auto) ?_
  rintro w8 h7 ⟨e7, G8, q8, o8⟩
  have n7 := e7.1; (try simp only [push_n, upd_n] at n7)
  (repeat' first|refine vs ?_|(refine br ?_ ?_<;>intro _<;>try(exfalso;first|omega|contradiction))|((with_reducible refine g_idx ?_);((first|refine ix ?_|refine ixi ?_|(refine ixg ?_;intro _ _)|(refine ixgi ?_;intro _ _));first|rintro _ _ _ _ _ ⟨rfl,rfl⟩ _|rintro _ _ _ _ _ ⟨_,rfl,_⟩ _|rintro _ _ _ _ _ ⟨_,_,_,_,rfl,rfl,_,_⟩ _|intro _ _ _ _ _ _ _))|(refine sx ?_;intro _ _)|((with_reducible refine g_awp ?_);simp only [g0,g1,g2]))
  refine aw_call (s_impl_copyDeeds x.deeds (by omega) _ _ _ slr_auto) ?_
  rintro w10 h8 ⟨e8, G10, q10, o10⟩
  have n8 := e8.1; (try simp only [push_n, upd_n] at n8)
  have r9' : SlRep h8 v9 x.tasks F9 := r9.ext ext_auto
  have lt9 := r9.lt
  have hsm := r9.small
  (repeat' first|refine vs ?_|(refine br ?_ ?_<;>intro _<;>try(exfalso;first|omega|contradiction))|((with_reducible refine g_idx ?_);((first|refine ix ?_|refine ixi ?_|(refine ixg ?_;intro _ _)|(refine ixgi ?_;intro _ _));first|rintro _ _ _ _ _ ⟨rfl,rfl⟩ _|rintro _ _ _ _ _ ⟨_,rfl,_⟩ _|rintro _ _ _ _ _ ⟨_,_,_,_,rfl,rfl,_,_⟩ _|intro _ _ _ _ _ _ _))|(refine sx ?_;intro _ _)|((with_reducible refine g_awp ?_);simp only [g0,g1,g2]))
  refine aw_upto x.tasks.length (fun i vs h9 => ∃ u G, vs = [.int .i64 (i : Int)] ∧ i ≤ x.tasks.length ∧ Bk h9 (h.n + 1 + 1) [AV.int .i64 x.c.stripes, AV.int .i64 x.c.wait, AV.int .i64 x.c.budget, AV.int .i64 x.c.cache, AV.int .i64 x.c.queue, AV.int .i64 x.c.rate, AV.int .i64 x.c.burst, AV.int .i64 x.c.rule.kind, AV.int .i64 x.c.rule.n, AV.str x.c.rule.key, AV.str x.c.rule.text, w0, AV.int .i64 x.time, AV.bool x.shut, w1, AV.int .i64 x.ruleHeld, AV.int .i64 x.b.rate, AV.int .i64 x.b.burst, AV.int .i64 x.b.tokens, AV.int .i64 x.b.at_, w2, AV.int .i64 x.used, AV.int .i64 x.w.now, w3, w4, w5, w6, w7, w8, u, w10, AV.int .i64 x.next] 0 ∧ Bk h9 (h.n + 1) [AV.int .i64 0, AV.int .i64 0, AV.int .i64 0, AV.int .i64 0, AV.int .i64 0, AV.int .i64 0, AV.int .i64 0, AV.int .i64 0, AV.int .i64 0, AV.str ⟨#[]⟩, AV.str ⟨#[]⟩, AV.nils, AV.int .i64 0, AV.bool false, AV.nils, AV.int .i64 0, AV.int .i64 0, AV.int .i64 0, AV.int .i64 0, AV.int .i64 0, AV.nils, AV.int .i64 0, AV.int .i64 0, AV.nils, AV.nils, AV.nils, AV.nils, AV.nils, AV.nils, AV.nils, AV.nils, AV.int .i64 0] 0 ∧ Kp h8 h9 [h.n + 1 + 1] ∧ SlRep h9 u (x.tasks.take i) G ∧ Own h8.n h9 G) ?_ ?_
  · exact ⟨.nils, [], rfl, Nat.zero_le _, bk_auto, bk_auto, (((Kp.refl _ _).updX (by simp) _).updX (by simp) _), SlRep.nils, Own.nil⟩
  rintro i vs h9 _ ⟨u, G, rfl, hi, b3, b1, k9, ru, ou⟩
  have n9 := k9.1
  simp only [g0]
  have r99 := slr_kp1 k9 r9' fun c hc hX => by have := lt9 c hc; have := List.mem_singleton.1 hX; omega
  refine br (fun hlt => ?_) (fun hge => ?_)
  · obtain ⟨t, ht, -, htk⟩ := drop_step (show i < x.tasks.length by omega)
    have hm := szs_mem (List.mem_of_getElem? ht)
    have hx2 : Sz.sz t = Sz.sz t.s + (t.hand.length + szs t.hand) := rfl
    refine vs ?_
    refine aw_idx r99 ht rfl ?_
    rintro b o _ Fi a ⟨y0, y1, H0, H1, rfl, rfl, t0, t1⟩ _
    (repeat' first|refine vs ?_|(refine br ?_ ?_<;>intro _<;>try(exfalso;first|omega|contradiction))|((with_reducible refine g_callf n_impl_copySpan ?_);(refine aw_call (s_impl_copySpan t.s (by omega) _ _ _ ⟨_, rfl, slr_auto⟩) ?_; rintro _ h10 ⟨e10, _, G11, rfl, ⟨w11, rfl, q11⟩, o11⟩; have n10 := e10.1; (try simp only [push_n, upd_n] at n10)))|((with_reducible refine g_callf n_impl_copyItems ?_);(refine aw_call (s_impl_copyItems t.hand (by omega) _ _ _ slr_auto) ?_; rintro w12 h11 ⟨e11, G12, q12, o12⟩; have n11 := e11.1; (try simp only [push_n, upd_n] at n11)))|((with_reducible refine g_idx ?_);((first|refine ix ?_|refine ixi ?_|(refine ixg ?_;intro _ _)|(refine ixgi ?_;intro _ _));first|rintro _ _ _ _ _ ⟨rfl,rfl⟩ _|rintro _ _ _ _ _ ⟨_,rfl,_⟩ _|rintro _ _ _ _ _ ⟨_,_,_,_,rfl,rfl,_,_⟩ _|intro _ _ _ _ _ _ _))|(refine sx ?_;intro _ _)|((with_reducible refine g_awp ?_);simp only [g0,g1,g2]))
    have hlen : (x.tasks.take i).length = i := by rw [List.length_take]; omega
    refine app1 (n := h8.n) (xs := x.tasks.take i) (Fx := G) (a := t) slr_auto ⟨_, _, _, _, rfl, rfl, slr_auto, slr_auto⟩ ?_ om_auto rfl ?_ ?_ ?_
    · exact (ol_app2 oll_auto (ol_app2 oll_auto oll_auto disn_auto) disn_auto).1
    · rw [hlen]; omega
    · rw [hlen]; omega
    intro u' h' F' ek kp r' o'
    have n12 := kp.1; (try simp only [push_n, upd_n] at n12)
    (repeat' first|refine vs ?_|(refine br ?_ ?_<;>intro _<;>try(exfalso;first|omega|contradiction))|((with_reducible refine g_idx ?_);((first|refine ix ?_|refine ixi ?_|(refine ixg ?_;intro _ _)|(refine ixgi ?_;intro _ _));first|rintro _ _ _ _ _ ⟨rfl,rfl⟩ _|rintro _ _ _ _ _ ⟨_,rfl,_⟩ _|rintro _ _ _ _ _ ⟨_,_,_,_,rfl,rfl,_,_⟩ _|intro _ _ _ _ _ _ _))|(refine sx ?_;intro _ _)|((with_reducible refine g_awp ?_);simp only [g0,g1,g2]))
    exact ⟨by omega, u', F', rfl, by omega, bk_auto, bk_auto, (kp_auto : Kp h8 h' [h.n + 1 + 1]).updX (by simp) _, by rw [htk]; exact slr_auto, ol_auto⟩
  have hi2 : i = x.tasks.length := by omega
  subst hi2
  rw [List.take_length] at ru
  have o3a := own_l o3
  have o3b := own_l (own_r o3)
  have o3c := own_r (own_r o3)
  have d3 := own_d o3
  have d4 := own_d (own_r o3)
  have d34 := dis_l d3
  have d35 := dis_r d3
  (repeat' first|refine vs ?_|(refine br ?_ ?_<;>intro _<;>try(exfalso;first|omega|contradiction))|((with_reducible refine g_idx ?_);((first|refine ix ?_|refine ixi ?_|(refine ixg ?_;intro _ _)|(refine ixgi ?_;intro _ _));first|rintro _ _ _ _ _ ⟨rfl,rfl⟩ _|rintro _ _ _ _ _ ⟨_,rfl,_⟩ _|rintro _ _ _ _ _ ⟨_,_,_,_,rfl,rfl,_,_⟩ _|intro _ _ _ _ _ _ _))|(refine sx ?_;intro _ _)|((with_reducible refine g_awp ?_);simp only [g0,g1,g2]))
  refine ⟨rfl, _, rfl, (Kp.ext (ext_auto : Ext h h8) k9 (by simp; omega)).upd (by simp) _, _, _, rfl, ⟨w0, w1, w2, w3, w4, w5, w6, w7, w8, u, w10, _, _, _, _, _, _, _, _, _, _, _, rfl, rfl, slr_auto, slr_auto, slr_auto, slr_auto, slr_auto, slr_auto, slr_auto, slr_auto, slr_auto, slr_auto, slr_auto⟩, ?_⟩
  exact (ol_app2 oll_auto (ol_app2 oll_auto (ol_app2 oll_auto (ol_app2 oll_auto (ol_app2 oll_auto (ol_app2 oll_auto (ol_app2 oll_auto (ol_app2 oll_auto (ol_app2 oll_auto (ol_app2 oll_auto oll_auto disn_auto) disn_auto) disn_auto) disn_auto) disn_auto) disn_auto) disn_auto) disn_auto) disn_auto) disn_auto).1
end Go.Proofs.YtekfdoknfcedpaaGreat
