import Derived.Test.YtekfdoknfcedpaaGreatCKW1
import Derived.Test.YtekfdoknfcedpaaGreatCW69
import Derived.Test.YtekfdoknfcedpaaGreatCKW2
import Derived.Test.YtekfdoknfcedpaaGreatCK5
/- Copies of worlds, by the reference. -/
set_option linter.unusedSimpArgs false
set_option linter.unusedVariables false
set_option maxHeartbeats 4000000
namespace Go.Proofs.YtekfdoknfcedpaaGreat
open Go Go.Ab
section
/- spec.l16Copy -/
def p_spec_l16Copy (x0 : AV) : Prog := .op (.box x0) fun a=>.op (.alloc z32_253) fun b=>Ld 32 a fun c=>.op (.alloc z32_253) fun d=>.op (.st 32 d c) fun _=>.op (.fad 0 a) fun c=>Ld 12 c fun c=>Cl n_spec_l13Copy [c] fun c=>.op (.alloc z12_a94) fun e=>.op (.st 12 e c) fun _=>Ld 12 e fun c=>.op (.fad 0 d) fun e=>.op (.st 12 e c) fun _=>Lg 14 a fun c=>Cl n_spec_l11Copy [c] fun c=>Sg 14 d c fun _=>.op (.bslice 3 0 [] []) fun c=>Lg 20 a fun e=>.op (.app 3 24 c e) fun c=>Sg 20 d c fun _=>.op (.fad 22 a) fun c=>Ld 4 c fun c=>Cl n_spec_l8Copy [c] fun c=>.op (.alloc [.int .i64 0, .nils, .nils, .nils]) fun e=>.op (.st 4 e c) fun _=>Ld 4 e fun c=>.op (.fad 22 d) fun e=>.op (.st 4 e c) fun _=>.op (.bslice 3 0 [] []) fun c=>Lg 26 a fun e=>.op (.app 3 24 c e) fun c=>Sg 26 d c fun _=>Lg 27 a fun c=>Cl n_spec_l14Items [c] fun c=>Sg 27 d c fun _=>Lg 28 a fun c=>Cl n_spec_l14Items [c] fun c=>Sg 28 d c fun _=>.op (.bslice 12 0 [] []) fun c=>Sg 29 d c fun _=>.loop [.int .i64 0] (fun b=>Lg 29 a fun c=>Ln 0 c fun c=>Bn .lss (g b 0) c fun c=>.ite c (Lg 29 a fun a=>Ix 12 a (g b 0) fun a=>Ld 12 a fun a=>Cl n_spec_l14Copy [a] fun a=>.op (.alloc z12_f83) fun c=>.op (.st 12 c a) fun _=>Lg 29 d fun a=>Ld 12 c fun c=>.op (.bslice 12 1 z12_f83 [(0, 12, c)]) fun c=>.op (.app 12 128 a c) fun a=>Sg 29 d a fun _=>Bn .add (g b 0) (.int .i64 1) fun a=>.leaf 0 [a]) (.leaf 2 [g b 0])) fun c e=>tsel c 1 (.leaf 1 e) (tsel c 2 (Lg 30 a fun a=>Cl n_spec_l15All [a] fun a=>Sg 30 d a fun _=>Ld 32 d fun a=>.op (.st 32 b a) fun _=>.fin [.cn 32 b]) .bad)
theorem c_spec_l16Copy (x0 : AV) : CC Tryz.prog n_spec_l16Copy [x0] (p_spec_l16Copy x0) := cc Tryz.func29 [1, 2, 3, 6] (fun _ => [])
end
theorem s_spec_l16Copy (x : Wld) (hs : Sz.sz x ≤ 67108864) : CopyX Wld Tryz.prog n_spec_l16Copy x := by
  rintro cs F h ⟨v0, v1, v2, v3, v4, v5, v6, v7, v8, v9, v10, F0, F1, F2, F3, F4, F5, F6, F7, F8, F9, F10, rfl, rfl, r0, r1, r2, r3, r4, r5, r6, r7, r8, r9, r10⟩
  rw [wsz] at hs
  have e_w : Sz.sz x.w = (x.w.near.length + szs x.w.near) + (x.w.far.length + szs x.w.far) + (x.w.rest.length + szs x.w.rest) := rfl
  have lt9 := r9.lt
  have lt10 := r10.lt
  have hsm := r9.small
  refine c_spec_l16Copy _ ?_
  unfold p_spec_l16Copy
  (repeat' first|refine vs ?_|(refine br ?_ ?_<;>intro _<;>try(exfalso;first|omega|contradiction))|((with_reducible refine g_idx ?_);((first|refine ix ?_|refine ixi ?_|(refine ixg ?_;intro _ _)|(refine ixgi ?_;intro _ _));first|rintro _ _ _ _ _ ⟨rfl,rfl⟩ _|rintro _ _ _ _ _ ⟨_,rfl,_⟩ _|rintro _ _ _ _ _ ⟨_,_,_,_,rfl,rfl,_,_⟩ _|intro _ _ _ _ _ _ _))|(refine sx ?_;intro _ _)|((with_reducible refine g_awp ?_);simp only [g0,g1,g2]))
  refine aw_call (s_spec_l13Copy x.c (by omega) _ _ _ ⟨_, rfl, slr_auto⟩) ?_
  rintro _ h1 ⟨e1, _, G0, rfl, ⟨w0, rfl, q0⟩, o0⟩
  have n1 := e1.1; (try simp only [push_n, upd_n] at n1)
  (repeat' first|refine vs ?_|(refine br ?_ ?_<;>intro _<;>try(exfalso;first|omega|contradiction))|((with_reducible refine g_idx ?_);((first|refine ix ?_|refine ixi ?_|(refine ixg ?_;intro _ _)|(refine ixgi ?_;intro _ _));first|rintro _ _ _ _ _ ⟨rfl,rfl⟩ _|rintro _ _ _ _ _ ⟨_,rfl,_⟩ _|rintro _ _ _ _ _ ⟨_,_,_,_,rfl,rfl,_,_⟩ _|intro _ _ _ _ _ _ _))|(refine sx ?_;intro _ _)|((with_reducible refine g_awp ?_);simp only [g0,g1,g2]))
  refine aw_call (s_spec_l11Copy x.st (by omega) _ _ _ slr_auto) ?_
  rintro w1 h2 ⟨e2, G1, q1, o1⟩
  have n2 := e2.1; (try simp only [push_n, upd_n] at n2)
  (repeat' first|refine vs ?_|(refine br ?_ ?_<;>intro _<;>try(exfalso;first|omega|contradiction))|((with_reducible refine g_idx ?_);((first|refine ix ?_|refine ixi ?_|(refine ixg ?_;intro _ _)|(refine ixgi ?_;intro _ _));first|rintro _ _ _ _ _ ⟨rfl,rfl⟩ _|rintro _ _ _ _ _ ⟨_,rfl,_⟩ _|rintro _ _ _ _ _ ⟨_,_,_,_,rfl,rfl,_,_⟩ _|intro _ _ _ _ _ _ _))|(refine sx ?_;intro _ _)|((with_reducible refine g_awp ?_);simp only [g0,g1,g2]))
  refine appE (ys := x.cache) (slr_auto : SlRep _ v2 x.cache F2) (tail_own r2 _) (Nat.le_refl _) rfl (by omega) ?_
  intro w2 h3 G2 e3 q2 o2
  have n3 := e3.1; (try simp only [push_n, upd_n] at n3)
  (repeat' first|refine vs ?_|(refine br ?_ ?_<;>intro _<;>try(exfalso;first|omega|contradiction))|((with_reducible refine g_idx ?_);((first|refine ix ?_|refine ixi ?_|(refine ixg ?_;intro _ _)|(refine ixgi ?_;intro _ _));first|rintro _ _ _ _ _ ⟨rfl,rfl⟩ _|rintro _ _ _ _ _ ⟨_,rfl,_⟩ _|rintro _ _ _ _ _ ⟨_,_,_,_,rfl,rfl,_,_⟩ _|intro _ _ _ _ _ _ _))|(refine sx ?_;intro _ _)|((with_reducible refine g_awp ?_);simp only [g0,g1,g2]))
  refine aw_call (s_spec_l8Copy x.w (by omega) _ _ _ ⟨_, _, _, _, _, _, rfl, rfl, slr_auto, slr_auto, slr_auto⟩) ?_
  rintro _ h4 ⟨e4, _, _, rfl, ⟨w3, w4, w5, G3, G4, G5, rfl, rfl, q3, q4, q5⟩, o3⟩
  have n4 := e4.1; (try simp only [push_n, upd_n] at n4)
  (repeat' first|refine vs ?_|(refine br ?_ ?_<;>intro _<;>try(exfalso;first|omega|contradiction))|((with_reducible refine g_idx ?_);((first|refine ix ?_|refine ixi ?_|(refine ixg ?_;intro _ _)|(refine ixgi ?_;intro _ _));first|rintro _ _ _ _ _ ⟨rfl,rfl⟩ _|rintro _ _ _ _ _ ⟨_,rfl,_⟩ _|rintro _ _ _ _ _ ⟨_,_,_,_,rfl,rfl,_,_⟩ _|intro _ _ _ _ _ _ _))|(refine sx ?_;intro _ _)|((with_reducible refine g_awp ?_);simp only [g0,g1,g2]))
  refine appE (ys := x.due) (slr_auto : SlRep _ v6 x.due F6) (tail_own r6 _) (Nat.le_refl _) rfl (by omega) ?_
  intro w6 h5 G6 e5 q6 o6
  have n5 := e5.1; (try simp only [push_n, upd_n] at n5)
  (repeat' first|refine vs ?_|(refine br ?_ ?_<;>intro _<;>try(exfalso;first|omega|contradiction))|((with_reducible refine g_idx ?_);((first|refine ix ?_|refine ixi ?_|(refine ixg ?_;intro _ _)|(refine ixgi ?_;intro _ _));first|rintro _ _ _ _ _ ⟨rfl,rfl⟩ _|rintro _ _ _ _ _ ⟨_,rfl,_⟩ _|rintro _ _ _ _ _ ⟨_,_,_,_,rfl,rfl,_,_⟩ _|intro _ _ _ _ _ _ _))|(refine sx ?_;intro _ _)|((with_reducible refine g_awp ?_);simp only [g0,g1,g2]))
  refine aw_call (s_spec_l14Items x.queue (by omega) _ _ _ slr_auto) ?_
  rintro w7 h6 ⟨e6, G7, q7, o7⟩
  have n6 := e6.1; (try simp only [push_n, upd_n] at n6)
  (repeat' first|refine vs ?_|(refine br ?_ ?_<;>intro _<;>try(exfalso;first|omega|contradiction))|((with_reducible refine g_idx ?_);((first|refine ix ?_|refine ixi ?_|(refine ixg ?_;intro _ _)|(refine ixgi ?_;intro _ _));first|rintro _ _ _ _ _ ⟨rfl,rfl⟩ _|rintro _ _ _ _ _ ⟨_,rfl,_⟩ _|rintro _ _ _ _ _ ⟨_,_,_,_,rfl,rfl,_,_⟩ _|intro _ _ _ _ _ _ _))|(refine sx ?_;intro _ _)|((with_reducible refine g_awp ?_);simp only [g0,g1,g2]))
  refine aw_call (s_spec_l14Items x.out (by omega) _ _ _ slr_auto) ?_
  rintro w8 h7 ⟨e7, G8, q8, o8⟩
  have n7 := e7.1; (try simp only [push_n, upd_n] at n7)
  (repeat' first|refine vs ?_|(refine br ?_ ?_<;>intro _<;>try(exfalso;first|omega|contradiction))|((with_reducible refine g_idx ?_);((first|refine ix ?_|refine ixi ?_|(refine ixg ?_;intro _ _)|(refine ixgi ?_;intro _ _));first|rintro _ _ _ _ _ ⟨rfl,rfl⟩ _|rintro _ _ _ _ _ ⟨_,rfl,_⟩ _|rintro _ _ _ _ _ ⟨_,_,_,_,rfl,rfl,_,_⟩ _|intro _ _ _ _ _ _ _))|(refine sx ?_;intro _ _)|((with_reducible refine g_awp ?_);simp only [g0,g1,g2]))
  have b7 : Bk h7 h.n (x.cs v0 v1 v2 v3 v4 v5 v6 v7 v8 v9 v10) 0 := bk_auto
  have r97 : SlRep h7 v9 x.tasks F9 := r9.ext ext_auto
  have r107 : SlRep h7 v10 x.deeds F10 := r10.ext ext_auto
  refine aw_upto x.tasks.length (fun i vs h9 => ∃ u G, vs = [.int .i64 (i : Int)] ∧ i ≤ x.tasks.length ∧ Bk h9 (h.n + 1 + 1) [AV.int .i64 x.c.stripes, AV.int .i64 x.c.wait, AV.int .i64 x.c.budget, AV.int .i64 x.c.cache, AV.int .i64 x.c.queue, AV.int .i64 x.c.rate, AV.int .i64 x.c.burst, AV.int .i64 x.c.rule.kind, AV.int .i64 x.c.rule.n, AV.str x.c.rule.key, AV.str x.c.rule.text, w0, AV.int .i64 x.time, AV.bool x.shut, w1, AV.int .i64 x.ruleHeld, AV.int .i64 x.b.rate, AV.int .i64 x.b.burst, AV.int .i64 x.b.tokens, AV.int .i64 x.b.at_, w2, AV.int .i64 x.used, AV.int .i64 x.w.now, w3, w4, w5, w6, w7, w8, u, v10, AV.int .i64 x.next] 0 ∧ Bk h9 (h.n + 1) [AV.int .i64 0, AV.int .i64 0, AV.int .i64 0, AV.int .i64 0, AV.int .i64 0, AV.int .i64 0, AV.int .i64 0, AV.int .i64 0, AV.int .i64 0, AV.str ⟨#[]⟩, AV.str ⟨#[]⟩, AV.nils, AV.int .i64 0, AV.bool false, AV.nils, AV.int .i64 0, AV.int .i64 0, AV.int .i64 0, AV.int .i64 0, AV.int .i64 0, AV.nils, AV.int .i64 0, AV.int .i64 0, AV.nils, AV.nils, AV.nils, AV.nils, AV.nils, AV.nils, AV.nils, AV.nils, AV.int .i64 0] 0 ∧ Bk h9 h.n (x.cs v0 v1 v2 v3 v4 v5 v6 v7 v8 v9 v10) 0 ∧ Kp h7 h9 [h.n + 1 + 1] ∧ SlRep h9 u (x.tasks.take i) G ∧ Own h7.n h9 G ∧ h7.n ≤ h9.n) ?_ ?_
  · exact ⟨_, _, rfl, Nat.zero_le _, bk_push1 (bk_upd (by simp only [push_n, upd_n]; omega)), bk_auto, bk_auto, ((((Kp.refl _ _).updX (by simp) _).updX (by simp) _).push _), (empty_own (α := Task) rfl).1, (empty_own (α := Task) rfl).2 h7.n (Nat.le_refl _), by simp⟩
  rintro i vs h9 _ ⟨u, G, rfl, hi, b3, b1, b0, k9, ru, ou, n9⟩
  simp only [g0]
  have r99 := slr_kp1 k9 r97 fun c hc hX => by have := lt9 c hc; have := List.mem_singleton.1 hX; omega
  refine vs ?_
  refine br (fun hlt => ?_) (fun hge => ?_)
  · obtain ⟨t, ht, -, htk⟩ := drop_step (show i < x.tasks.length by omega)
    have hm := szs_mem (List.mem_of_getElem? ht)
    have hx2 : Sz.sz t = Sz.sz t.s + (t.hand.length + szs t.hand) := rfl
    refine vs ?_
    refine aw_idx r99 ht rfl ?_
    rintro b o _ Fi a ⟨y0, y1, H0, H1, rfl, rfl, t0, t1⟩ _
    (repeat' first|refine vs ?_|(refine br ?_ ?_<;>intro _<;>try(exfalso;first|omega|contradiction))|((with_reducible refine g_callf n_spec_l14Copy ?_);(refine aw_call (s_spec_l14Copy t (by omega) _ _ _ ⟨_, _, _, _, rfl, rfl, slr_auto, slr_auto⟩) ?_; rintro _ h10 ⟨e10, _, _, rfl, ⟨w11, w12, G11, G12, rfl, rfl, q11, q12⟩, o11⟩; have n10 := e10.1; (try simp only [push_n, upd_n] at n10)))|((with_reducible refine g_idx ?_);((first|refine ix ?_|refine ixi ?_|(refine ixg ?_;intro _ _)|(refine ixgi ?_;intro _ _));first|rintro _ _ _ _ _ ⟨rfl,rfl⟩ _|rintro _ _ _ _ _ ⟨_,rfl,_⟩ _|rintro _ _ _ _ _ ⟨_,_,_,_,rfl,rfl,_,_⟩ _|intro _ _ _ _ _ _ _))|(refine sx ?_;intro _ _)|((with_reducible refine g_awp ?_);simp only [g0,g1,g2]))
    have oa := own_l o11
    have ob := own_r o11
    have od := own_d o11
    have hlen : (x.tasks.take i).length = i := by rw [List.length_take]; omega
    refine app1 (n := h7.n) (xs := x.tasks.take i) (Fx := G) (a := t) slr_auto ⟨_, _, _, _, rfl, rfl, slr_auto, slr_auto⟩ ?_ om_auto rfl ?_ ?_ ?_
    · exact (ol_app2 oll_auto (ol_app2 oll_auto oll_auto od) disn_auto).1
    · rw [hlen]; omega
    · rw [hlen]; omega
    intro u' h' F' ek kp r' o'
    have n12 := kp.1; (try simp only [push_n, upd_n] at n12)
    (repeat' first|refine vs ?_|(refine br ?_ ?_<;>intro _<;>try(exfalso;first|omega|contradiction))|((with_reducible refine g_idx ?_);((first|refine ix ?_|refine ixi ?_|(refine ixg ?_;intro _ _)|(refine ixgi ?_;intro _ _));first|rintro _ _ _ _ _ ⟨rfl,rfl⟩ _|rintro _ _ _ _ _ ⟨_,rfl,_⟩ _|rintro _ _ _ _ _ ⟨_,_,_,_,rfl,rfl,_,_⟩ _|intro _ _ _ _ _ _ _))|(refine sx ?_;intro _ _)|((with_reducible refine g_awp ?_);simp only [g0,g1,g2]))
    exact ⟨by omega, u', F', rfl, by omega, bk_auto, bk_auto, bk_auto, (kp_auto : Kp h7 h' [h.n + 1 + 1]).updX (by simp) _, by rw [htk]; exact slr_auto, ol_auto, by simp only [upd_n]; omega⟩
  have hi2 : i = x.tasks.length := by omega
  subst hi2
  rw [List.take_length] at ru
  have o3a := own_l o3
  have o3b := own_l (own_r o3)
  have o3c := own_r (own_r o3)
  have d3 := own_d o3
  have d4 := own_d (own_r o3)
  have d34 := dis_l d3
  have d35 := dis_r d3
  have r109 := slr_kp1 k9 r107 fun c hc hX => by have := lt10 c hc; have := List.mem_singleton.1 hX; omega
  (repeat' first|refine vs ?_|(refine br ?_ ?_<;>intro _<;>try(exfalso;first|omega|contradiction))|((with_reducible refine g_idx ?_);((first|refine ix ?_|refine ixi ?_|(refine ixg ?_;intro _ _)|(refine ixgi ?_;intro _ _));first|rintro _ _ _ _ _ ⟨rfl,rfl⟩ _|rintro _ _ _ _ _ ⟨_,rfl,_⟩ _|rintro _ _ _ _ _ ⟨_,_,_,_,rfl,rfl,_,_⟩ _|intro _ _ _ _ _ _ _))|(refine sx ?_;intro _ _)|((with_reducible refine g_awp ?_);simp only [g0,g1,g2]))
  refine aw_call (s_spec_l15All x.deeds (by omega) _ _ _ slr_auto) ?_
  rintro w10 h10 ⟨e10, G10, q10, o10⟩
  have n10 := e10.1; (try simp only [push_n, upd_n] at n10)
  (repeat' first|refine vs ?_|(refine br ?_ ?_<;>intro _<;>try(exfalso;first|omega|contradiction))|((with_reducible refine g_idx ?_);((first|refine ix ?_|refine ixi ?_|(refine ixg ?_;intro _ _)|(refine ixgi ?_;intro _ _));first|rintro _ _ _ _ _ ⟨rfl,rfl⟩ _|rintro _ _ _ _ _ ⟨_,rfl,_⟩ _|rintro _ _ _ _ _ ⟨_,_,_,_,rfl,rfl,_,_⟩ _|intro _ _ _ _ _ _ _))|(refine sx ?_;intro _ _)|((with_reducible refine g_awp ?_);simp only [g0,g1,g2]))
  refine ⟨rfl, _, rfl, ((((Kp.ext (ext_auto : Ext h h7) k9 (by simp; omega)).trans e10).upd (by simp only [push_n]; omega) _).upd (by simp only [push_n]; omega) _), _, _, rfl, ⟨w0, w1, w2, w3, w4, w5, w6, w7, w8, u, w10, _, _, _, _, _, _, _, _, _, _, _, rfl, rfl, slr_auto, slr_auto, slr_auto, slr_auto, slr_auto, slr_auto, slr_auto, slr_auto, slr_auto, slr_auto, slr_auto⟩, ?_⟩
  exact (ol_app2 oll_auto (ol_app2 oll_auto (ol_app2 oll_auto (ol_app2 oll_auto (ol_app2 oll_auto (ol_app2 oll_auto (ol_app2 oll_auto (ol_app2 oll_auto (ol_app2 oll_auto (ol_app2 oll_auto oll_auto disn_auto) disn_auto) disn_auto) disn_auto) disn_auto) disn_auto) disn_auto) disn_auto) disn_auto) disn_auto).1
end Go.Proofs.YtekfdoknfcedpaaGreat
