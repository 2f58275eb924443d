import Derived.Test.YtekfdoknfcedpaaGreatCW78
import Derived.Test.YtekfdoknfcedpaaGreatCKW2
/- A thing is offered: the whole. -/
set_option linter.unusedSimpArgs false
set_option linter.unusedVariables false
set_option maxHeartbeats 2000000
namespace Go.Proofs.YtekfdoknfcedpaaGreat
open Go Go.Ab Go.RowKit
attribute [local irreducible] afill
section
/- spec.Offer -/
def p_spec_Offer (x0 x1 x2 : AV) : Prog := .op (.box x0) fun a=>.op (.box x2) fun b=>.op (.alloc z32_253) fun c=>Ld 32 a fun d=>Cl n_spec_l16Copy [d] fun d=>.op (.alloc z32_253) fun e=>.op (.st 32 e d) fun _=>Ld 32 a fun d=>Cl n_spec_WorldOk [d] fun d=>.op (.una .not d) fun d=>.gop d false (.mv x1) fun f=>.gop d false (.call n_spec_l1In [f, .int .i64 0, .int .i64 2]) fun f=>.gop d false (.una .not f) fun f=>Pk d (.bool true) f fun d=>Gf d false 29 a fun a=>.gop d false (.mv x1) fun f=>.gop d false (.idx 12 a f) fun a=>Gf d false 0 a fun a=>.gop d false (.bin 0 .neq a (.int .i64 0)) fun a=>Pk d (.bool true) a fun a=>.ite a (Ld 32 e fun a=>.op (.st 32 c a) fun _=>.fin [.cn 32 c, .val (.bool false)]) (Ld 6 b fun a=>Cl n_spec_l17Offer [e, x1, a] fun _=>Ld 32 e fun a=>.op (.st 32 c a) fun _=>.fin [.cn 32 c, .val (.bool true)])
theorem c_spec_Offer (x0 x1 x2 : AV) : CC Tryz.prog n_spec_Offer [x0, x1, x2] (p_spec_Offer x0 x1 x2) := cc Tryz.func16
/- impl.Offer -/
def p_impl_Offer (x0 x1 x2 : AV) : Prog := .op (.box x0) fun a=>.op (.box x2) fun b=>.op (.alloc z32_253) fun c=>Ld 32 a fun d=>Cl n_impl_copyWorld [d] fun d=>.op (.alloc z32_253) fun e=>.op (.st 32 e d) fun _=>Ld 32 a fun d=>Cl n_impl_WorldOk [d] fun d=>.op (.una .not d) fun d=>.gop d false (.mv x1) fun f=>.gop d false (.call n_impl_within [f, .int .i64 0, .int .i64 2]) fun f=>.gop d false (.una .not f) fun f=>Pk d (.bool true) f fun d=>Gf d false 29 a fun f=>.gop d false (.mv x1) fun i=>.gop d false (.idx 12 f i) fun f=>Gf d false 0 f fun f=>.gop d false (.bin 0 .neq f (.int .i64 0)) fun f=>Pk d (.bool true) f fun d=>.ite d (Ld 32 e fun a=>.op (.st 32 c a) fun _=>.fin [.cn 32 c, .val (.bool false)]) (Ld 6 b fun d=>Ld 32 a fun f=>.op (.fad 12 a) fun i=>.op (.ld1 i) fun j=>.op (.alloc z20_1ff) fun k=>Cl n_impl_copySpan [d] fun d=>.chk (.ldn 32 a) f (.chk (.ld1 i) j (.chk (.alloc z20_1ff) k (Cl n_impl_TimeOf [f] fun f=>.chk (.ld1 i) j (.chk (.alloc z20_1ff) k (.op (.build z20_1ff [(0, 1, .int .i64 1), (1, 1, x1), (2, 6, d), (16, 1, f), (17, 1, j), (18, 1, .int .i64 (-1)), (19, 1, .int .i64 (-1))]) fun d=>.op (.st 20 k d) fun _=>.op (.fad 0 a) fun d=>Ld 12 d fun d=>Ld 6 b fun f=>Cl n_impl_Fits [d, f] fun d=>.scope (.ite d (.op (.fad 29 e) fun c=>.op (.ld1 c) fun d=>Ld 6 b fun b=>.op (.fad 30 a) fun a=>.op (.ld1 a) fun e=>Ln 0 e fun f=>Cl n_impl_copySpan [b] fun b=>.chk (.ld1 c) d (.chk (.ld1 a) e (.op (.build z12_f83 [(0, 1, .int .i64 1), (2, 6, b), (11, 1, f)]) fun a=>Ix 12 d x1 fun b=>.op (.st 12 b a) fun _=>.leaf 0 []))) (.op (.fad 12 a) fun b=>.op (.ld1 b) fun c=>.op (.fad 12 a) fun a=>.op (.ld1 a) fun d=>Sg 10 k (.int .i64 5) fun _=>.chk (.ld1 b) c (.chk (.ld1 a) d (Sg 18 k c fun _=>.chk (.ld1 a) d (Sg 19 k d fun _=>.leaf 0 []))))) (fun _=>Lg 30 e fun a=>Ld 20 k fun b=>.op (.bslice 20 1 z20_1ff [(0, 20, b)]) fun b=>.op (.app 20 168 a b) fun a=>Sg 30 e a fun _=>Lg 12 e fun a=>Bn .add a (.int .i64 1) fun a=>Sg 12 e a fun _=>Ld 32 e fun a=>.op (.st 32 c a) fun _=>.fin [.cn 32 c, .val (.bool true)]) fun a b=>tsel a 1 (.leaf 1 b) .bad))))))
theorem c_impl_Offer (x0 x1 x2 : AV) : CC Tryz.prog n_impl_Offer [x0, x1, x2] (p_impl_Offer x0 x1 x2) := cc Tryz.func18 [6, 8, 9] (fun r => if r = 4 then [(0, []), (1, []), (3, []), (5, []), (6, []), (8, []), (2, [3, 6, 8]), (4, [6, 8]), (7, []), (9, [])] else if r = 6 then [(0, []), (1, []), (2, []), (3, []), (5, []), (6, []), (7, []), (4, [1, 6]), (8, []), (9, []), (10, [])] else if r = 7 then [(0, []), (1, []), (2, []), (3, []), (4, []), (5, [1, 3]), (6, []), (7, [3]), (8, []), (9, [])] else [])
end
section
variable {P : Program} {f : FuncId} {h H g : AH} {x y : Wld} {cs ss : List AV} {F : List Nat} {Q : Nat → List AV → AH → Prop}
theorem prolog2 (hc : CopyX Wld P f x) (r : Cel.rep h x cs F) {K : AV → AV → AV → AV → Prog} (hk : ∀ (H : AH) (B : Nat) (V : WV) (G : WF), Ext h H → H.n = B + 1 → h.n + 1 + 1 + 1 ≤ B → Bk H h.n cs 0 → Bk H (h.n + 1) ss 0 → Bk H (h.n + 1 + 1) [AV.int .i64 0, AV.int .i64 0, AV.int .i64 0, AV.int .i64 0, AV.int .i64 0, AV.int .i64 0, AV.int .i64 0, AV.int .i64 0, AV.int .i64 0, AV.str ⟨#[]⟩, AV.str ⟨#[]⟩, AV.nils, AV.int .i64 0, AV.bool false, AV.nils, AV.int .i64 0, AV.int .i64 0, AV.int .i64 0, AV.int .i64 0, AV.int .i64 0, AV.nils, AV.int .i64 0, AV.int .i64 0, AV.nils, AV.nils, AV.nils, AV.nils, AV.nils, AV.nils, AV.nils, AV.nils, AV.int .i64 0] 0 → PW (h.n + 1 + 1 + 1) H B x V G → (K (.ptr h.n 0) (.ptr (h.n + 1) 0) (.ptr (h.n + 1 + 1) 0) (.ptr B 0)).awp P H Q) :
    (Prog.op (.box (.agg cs)) fun v1 => .op (.box (.agg ss)) fun v2 => .op (.alloc [AV.int .i64 0, AV.int .i64 0, AV.int .i64 0, AV.int .i64 0, AV.int .i64 0, AV.int .i64 0, AV.int .i64 0, AV.int .i64 0, AV.int .i64 0, AV.str ⟨#[]⟩, AV.str ⟨#[]⟩, AV.nils, AV.int .i64 0, AV.bool false, AV.nils, AV.int .i64 0, AV.int .i64 0, AV.int .i64 0, AV.int .i64 0, AV.int .i64 0, AV.nils, AV.int .i64 0, AV.int .i64 0, AV.nils, AV.nils, AV.nils, AV.nils, AV.nils, AV.nils, AV.nils, AV.nils, AV.int .i64 0]) fun v3 => .op (.ldn 32 v1) fun v4 => .op (.call f [v4]) fun v5 => .op (.alloc [AV.int .i64 0, AV.int .i64 0, AV.int .i64 0, AV.int .i64 0, AV.int .i64 0, AV.int .i64 0, AV.int .i64 0, AV.int .i64 0, AV.int .i64 0, AV.str ⟨#[]⟩, AV.str ⟨#[]⟩, AV.nils, AV.int .i64 0, AV.bool false, AV.nils, AV.int .i64 0, AV.int .i64 0, AV.int .i64 0, AV.int .i64 0, AV.int .i64 0, AV.nils, AV.int .i64 0, AV.int .i64 0, AV.nils, AV.nils, AV.nils, AV.nils, AV.nils, AV.nils, AV.nils, AV.nils, AV.int .i64 0]) fun v6 => .op (.st 32 v6 v5) fun _ => K v1 v2 v3 v6).awp P h Q := by
  have hl : cs.length = 32 := Cel.len r
  refine aw_box rfl ?_
  refine aw_box rfl ?_
  refine aw_alloc ?_
  refine aw_ldv (bk_push1 (bk_push1 bk_push)) hl (by decide) ?_
  have e0 : Ext h (((h.push ⟨cs, 0, 0⟩).push ⟨ss, 0, 0⟩).push ⟨[AV.int .i64 0, AV.int .i64 0, AV.int .i64 0, AV.int .i64 0, AV.int .i64 0, AV.int .i64 0, AV.int .i64 0, AV.int .i64 0, AV.int .i64 0, AV.str ⟨#[]⟩, AV.str ⟨#[]⟩, AV.nils, AV.int .i64 0, AV.bool false, AV.nils, AV.int .i64 0, AV.int .i64 0, AV.int .i64 0, AV.int .i64 0, AV.int .i64 0, AV.nils, AV.int .i64 0, AV.int .i64 0, AV.nils, AV.nils, AV.nils, AV.nils, AV.nils, AV.nils, AV.nils, AV.nils, AV.int .i64 0], 0, 0⟩) := (((Ext.refl h).push _).push _).push _
  refine aw_call (hc _ _ _ (rep_ext r e0)) ?_
  rintro _ h1 ⟨e1, cs1, G, rfl, q1, o1⟩
  have n1 := e1.1
  simp only [push_n] at n1 o1
  refine aw_alloc ?_
  have l1 : cs1.length = 32 := Cel.len q1
  refine aw_stv l1 rfl ?_
  have lt := Cel.lt q1
  have e2 : Ext h1 (h1.push ⟨cs1, 0, 0⟩) := (Ext.refl _).push _
  obtain ⟨V, W, rfl, eF, w⟩ := PW.of (n := h.n + 1 + 1 + 1) (rep_ext q1 e2) (ol_ext1 e2 ⟨o1, lt⟩).1 (bk_push (h := h1) (cs := cs1) (es := 0)) (by omega) (fun hm => by have := lt _ hm; omega)
  refine hk _ h1.n V W ((e0.trans e1).trans e2) rfl (by omega) (bk_ext1 e2 (bk_ext1 e1 (bk_push1 (bk_push1 bk_push)))) (bk_ext1 e2 (bk_ext1 e1 (bk_push1 bk_push))) (bk_ext1 e2 (bk_ext1 e1 ?_)) w
  exact bk_push
theorem ret_s {z B : Nat} {V V2 : WV} {G F2 : WF} {ok : Bool} {z0 : List AV} (w : PW (z + 1) H B x V G) (bz : Bk H z z0 0) (e : Ext h H) (hn : h.n ≤ z) (s : WS (z + 1) H.n H B G g y V2 F2) : 1 = 1 ∧ ∃ v, [AV.tup [.agg (y.cv V2), .bool ok]] = [v] ∧ NewP h y ok v (g.upd z ⟨y.cv V2, 0, 0⟩) := by
  have k := s.mv.kp
  have hBo : ∀ c ∈ B :: G.a, z + 1 ≤ c := fun c hc => by
    rcases List.mem_cons.1 hc with q | q
    · rw [q]; exact w.nb
    · exact (w.own.1.2 c q).1
  have bz2 := bk_kp1 k bz (fun hm => by have := hBo _ hm; omega)
  have e2 : Ext h g := Kp.ext e k fun c hc => by have := hBo c hc; omega
  exact ret_e s.w bz2 e2 hn
end
def canOffer (x : Wld) (k : Int) : Prop := worldOk x ∧ (0 ≤ k ∧ k ≤ 2) ∧ (∃ t, x.tasks[k.toNat]? = some t ∧ t.op = 0)
noncomputable def offerP (x : Wld) (k : Int) (s : Span) : Wld × Bool := if bp (canOffer x k) = true then (offerW x k.toNat s, true) else (x, false)
theorem offerP_y {x : Wld} {k : Int} {s : Span} (h : canOffer x k) : offerP x k s = (offerW x k.toNat s, true) := if_pos (bp_t h)
theorem offerP_n {x : Wld} {k : Int} {s : Span} (h : ¬ canOffer x k) : offerP x k s = (x, false) := if_neg (by rw [bp_f h]; decide)
theorem s_spec_Offer {h : AH} {x : Wld} {cs : List AV} {F : List Nat} {k : Int} {s : Span} {vS : AV} {Fs : List Nat} (ok : Cel.ok x) (hs : Sz.sz x ≤ 67108864) (r : Cel.rep h x cs F) (oks : Cel.ok s) (hss : Sz.sz s ≤ 67108864) (rs : SlRep h vS s.attrs Fs) : ACalls Tryz.prog n_spec_Offer [.agg cs, .int .i64 k, .agg (s.cs vS)] h (NewP h (offerP x k s).1 (offerP x k s).2) := by
  have hs0 := hs
  have r0' := r
  obtain ⟨v0, v1, v2, v3, v4, v5, v6, v7, v8, v9, v10, F0, F1, F2, F3, F4, F5, F6, F7, F8, F9, F10, rfl, rfl, r0, r1, r2, r3, r4, r5, r6, r7, r8, r9, r10⟩ := r
  have hs : Sz.sz x.c + (x.st.length + szs x.st) + (x.cache.length + szs x.cache) + Sz.sz x.w + (x.due.length + szs x.due) + (x.queue.length + szs x.queue) + (x.out.length + szs x.out) + (x.tasks.length + szs x.tasks) + (x.deeds.length + szs x.deeds) ≤ 67108864 := hs
  have hl1 := r1.small
  have hl9 := r9.small
  refine c_spec_Offer _ _ _ ?_
  unfold p_spec_Offer
  refine prolog2 (s_spec_l16Copy x hs0) r0' ?_
  intro H B V G e nB hB bx bs bz w
  have bB : Bk H B [AV.int .i64 x.c.stripes, AV.int .i64 x.c.wait, AV.int .i64 x.c.budget, AV.int .i64 x.c.cache, AV.int .i64 x.c.queue, AV.int .i64 x.c.rate, AV.int .i64 x.c.burst, AV.int .i64 x.c.rule.kind, AV.int .i64 x.c.rule.n, AV.str x.c.rule.key, AV.str x.c.rule.text, V.v0, AV.int .i64 x.time, AV.bool x.shut, V.v1, AV.int .i64 x.ruleHeld, AV.int .i64 x.b.rate, AV.int .i64 x.b.burst, AV.int .i64 x.b.tokens, AV.int .i64 x.b.at_, V.v2, AV.int .i64 x.used, AV.int .i64 x.w.now, V.v3, V.v4, V.v5, V.v6, V.v7, V.v8, V.v9, V.v10, AV.int .i64 x.next] 0 := w.bk
  have bs : Bk H (h.n + 1) [.int .i64 s.trace, .int .i64 s.id, .int .i64 s.start, .int .i64 s.fin, .bool s.err, vS] 0 := bs
  by_cases hw : worldOk x ∧ (0 ≤ k ∧ k ≤ 2)
  · have h5 := hw.1.2.1
    obtain ⟨t, ht, -, -⟩ := drop_step (show k.toNat < x.tasks.length by omega)
    obtain ⟨k', rfl⟩ : ∃ k' : Nat, k = k' := ⟨k.toNat, by omega⟩
    simp only [Int.toNat_natCast] at ht
    by_cases hg : t.op = 0
    · rw [offerP_y ⟨hw.1, hw.2, t, ht, hg⟩]
      (repeat' first|refine vs ?_|(refine br ?_ ?_<;>intro _<;>try(exfalso;first|omega|contradiction))|((with_reducible refine g_callf n_spec_WorldOk ?_);(refine aw_rcall_b (s_spec_WorldOk (x := x) ok hs0 ⟨_, _, _, _, _, _, _, _, _, _, _, _, _, _, _, _, _, _, _, _, _, _, rfl, rfl, slr_auto, slr_auto, slr_auto, slr_auto, slr_auto, slr_auto, slr_auto, slr_auto, slr_auto, slr_auto, slr_auto⟩) ?_ ?_ <;> intro hn <;> first | replace hn := bp_true hn | replace hn := bp_false hn))|((with_reducible refine g_callf n_spec_l1In ?_);(refine aw_rcall_b (s_spec_l1In) ?_ ?_ <;> intro hb <;> (first | replace hb := inB_t hb | replace hb := inB_f hb)))|((with_reducible refine g_idx ?_);((first|refine ix ?_|refine ixi ?_|(refine ixg ?_;intro _ _)|(refine ixgi ?_;intro _ _));first|rintro _ _ _ _ _ ⟨rfl,rfl⟩ _|rintro _ _ _ _ _ ⟨_,rfl,_⟩ _|rintro _ _ _ _ _ ⟨_,_,_,_,rfl,rfl,_,_⟩ _|intro _ _ _ _ _ _ _))|(refine sx ?_;intro _ _)|((with_reducible refine g_awp ?_);simp only [g0,g1,g2]))
      all_goals try (exfalso; first | omega | exact absurd hw.1 (by assumption))
      have lts := rs.lt
      refine aw_call (s_spec_l17Offer (s := s) (vS := vS) (Fs := Fs) w (by omega) (by omega) oks hs0 hss (rs.ext e) fun c hc => by have := lts c hc; omega) ?_
      rintro _ h2 ⟨rfl, W⟩
      exact ret_w w bz rfl e (by omega) W
    · rw [offerP_n fun c => hg (by obtain ⟨t', ht', q⟩ := c.2.2; simp only [Int.toNat_natCast] at ht'; rw [ht] at ht'; cases ht'; exact q)]
      (repeat' first|refine vs ?_|(refine br ?_ ?_<;>intro _<;>try(exfalso;first|omega|contradiction))|((with_reducible refine g_callf n_spec_WorldOk ?_);(refine aw_rcall_b (s_spec_WorldOk (x := x) ok hs0 ⟨_, _, _, _, _, _, _, _, _, _, _, _, _, _, _, _, _, _, _, _, _, _, rfl, rfl, slr_auto, slr_auto, slr_auto, slr_auto, slr_auto, slr_auto, slr_auto, slr_auto, slr_auto, slr_auto, slr_auto⟩) ?_ ?_ <;> intro hn <;> first | replace hn := bp_true hn | replace hn := bp_false hn))|((with_reducible refine g_callf n_spec_l1In ?_);(refine aw_rcall_b (s_spec_l1In) ?_ ?_ <;> intro hb <;> (first | replace hb := inB_t hb | replace hb := inB_f hb)))|((with_reducible refine g_idx ?_);((first|refine ix ?_|refine ixi ?_|(refine ixg ?_;intro _ _)|(refine ixgi ?_;intro _ _));first|rintro _ _ _ _ _ ⟨rfl,rfl⟩ _|rintro _ _ _ _ _ ⟨_,rfl,_⟩ _|rintro _ _ _ _ _ ⟨_,_,_,_,rfl,rfl,_,_⟩ _|intro _ _ _ _ _ _ _))|(refine sx ?_;intro _ _)|((with_reducible refine g_awp ?_);simp only [g0,g1,g2]))
      all_goals first
        | (exfalso; first | omega | exact absurd hw.1 (by assumption))
        | exact ret_e w bz e (by omega)
  · rw [offerP_n fun c => hw ⟨c.1, c.2.1⟩]
    (repeat' first|refine vs ?_|(refine br ?_ ?_<;>intro _<;>try(exfalso;first|omega|contradiction))|((with_reducible refine g_callf n_spec_WorldOk ?_);(refine aw_rcall_b (s_spec_WorldOk (x := x) ok hs0 ⟨_, _, _, _, _, _, _, _, _, _, _, _, _, _, _, _, _, _, _, _, _, _, rfl, rfl, slr_auto, slr_auto, slr_auto, slr_auto, slr_auto, slr_auto, slr_auto, slr_auto, slr_auto, slr_auto, slr_auto⟩) ?_ ?_ <;> intro hn <;> first | replace hn := bp_true hn | replace hn := bp_false hn))|((with_reducible refine g_callf n_spec_l1In ?_);(refine aw_rcall_b (s_spec_l1In) ?_ ?_ <;> intro hb <;> (first | replace hb := inB_t hb | replace hb := inB_f hb)))|((with_reducible refine g_idx ?_);((first|refine ix ?_|refine ixi ?_|(refine ixg ?_;intro _ _)|(refine ixgi ?_;intro _ _));first|rintro _ _ _ _ _ ⟨rfl,rfl⟩ _|rintro _ _ _ _ _ ⟨_,rfl,_⟩ _|rintro _ _ _ _ _ ⟨_,_,_,_,rfl,rfl,_,_⟩ _|intro _ _ _ _ _ _ _))|(refine sx ?_;intro _ _)|((with_reducible refine g_awp ?_);simp only [g0,g1,g2]))
    all_goals first
      | exact absurd ⟨by assumption, by omega⟩ hw
      | exact ret_e w bz e (by omega)
theorem s_impl_Offer {h : AH} {x : Wld} {cs : List AV} {F : List Nat} {k : Int} {s : Span} {vS : AV} {Fs : List Nat} (ok : Cel.ok x) (hs : Sz.sz x ≤ 67108864) (r : Cel.rep h x cs F) (oks : Cel.ok s) (hss : Sz.sz s ≤ 67108864) (rs : SlRep h vS s.attrs Fs) : ACalls Tryz.prog n_impl_Offer [.agg cs, .int .i64 k, .agg (s.cs vS)] h (NewP h (offerP x k s).1 (offerP x k s).2) := by
  have hs0 := hs
  have r0' := r
  obtain ⟨v0, v1, v2, v3, v4, v5, v6, v7, v8, v9, v10, F0, F1, F2, F3, F4, F5, F6, F7, F8, F9, F10, rfl, rfl, r0, r1, r2, r3, r4, r5, r6, r7, r8, r9, r10⟩ := r
  have hs : Sz.sz x.c + (x.st.length + szs x.st) + (x.cache.length + szs x.cache) + Sz.sz x.w + (x.due.length + szs x.due) + (x.queue.length + szs x.queue) + (x.out.length + szs x.out) + (x.tasks.length + szs x.tasks) + (x.deeds.length + szs x.deeds) ≤ 67108864 := hs
  have hl1 := r1.small
  have hl9 := r9.small
  refine c_impl_Offer _ _ _ ?_
  unfold p_impl_Offer
  refine prolog2 (s_impl_copyWorld x hs0) r0' ?_
  intro H B V G e nB hB bx bs bz w
  have bB : Bk H B [AV.int .i64 x.c.stripes, AV.int .i64 x.c.wait, AV.int .i64 x.c.budget, AV.int .i64 x.c.cache, AV.int .i64 x.c.queue, AV.int .i64 x.c.rate, AV.int .i64 x.c.burst, AV.int .i64 x.c.rule.kind, AV.int .i64 x.c.rule.n, AV.str x.c.rule.key, AV.str x.c.rule.text, V.v0, AV.int .i64 x.time, AV.bool x.shut, V.v1, AV.int .i64 x.ruleHeld, AV.int .i64 x.b.rate, AV.int .i64 x.b.burst, AV.int .i64 x.b.tokens, AV.int .i64 x.b.at_, V.v2, AV.int .i64 x.used, AV.int .i64 x.w.now, V.v3, V.v4, V.v5, V.v6, V.v7, V.v8, V.v9, V.v10, AV.int .i64 x.next] 0 := w.bk
  have bs : Bk H (h.n + 1) [.int .i64 s.trace, .int .i64 s.id, .int .i64 s.start, .int .i64 s.fin, .bool s.err, vS] 0 := bs
  by_cases hw : worldOk x ∧ (0 ≤ k ∧ k ≤ 2)
  · have h5 := hw.1.2.1
    obtain ⟨t, ht, -, -⟩ := drop_step (show k.toNat < x.tasks.length by omega)
    obtain ⟨k', rfl⟩ : ∃ k' : Nat, k = k' := ⟨k.toNat, by omega⟩
    simp only [Int.toNat_natCast] at ht
    by_cases hg : t.op = 0
    · rw [offerP_y ⟨hw.1, hw.2, t, ht, hg⟩]
      (repeat' first|refine vs ?_|(refine br ?_ ?_<;>intro _<;>try(exfalso;first|omega|contradiction))|((with_reducible refine g_callf n_impl_WorldOk ?_);(refine aw_rcall_b (s_impl_WorldOk (x := x) ok hs0 ⟨_, _, _, _, _, _, _, _, _, _, _, _, _, _, _, _, _, _, _, _, _, _, rfl, rfl, slr_auto, slr_auto, slr_auto, slr_auto, slr_auto, slr_auto, slr_auto, slr_auto, slr_auto, slr_auto, slr_auto⟩) ?_ ?_ <;> intro hn <;> first | replace hn := bp_true hn | replace hn := bp_false hn))|((with_reducible refine g_callf n_impl_within ?_);(refine aw_rcall_b (s_impl_within) ?_ ?_ <;> intro hb <;> (first | replace hb := inB_t hb | replace hb := inB_f hb)))|((with_reducible refine g_idx ?_);((first|refine ix ?_|refine ixi ?_|(refine ixg ?_;intro _ _)|(refine ixgi ?_;intro _ _));first|rintro _ _ _ _ _ ⟨rfl,rfl⟩ _|rintro _ _ _ _ _ ⟨_,rfl,_⟩ _|rintro _ _ _ _ _ ⟨_,_,_,_,rfl,rfl,_,_⟩ _|intro _ _ _ _ _ _ _))|(refine sx ?_;intro _ _)|((with_reducible refine g_awp ?_);simp only [g0,g1,g2]))
      all_goals try (exfalso; first | omega | exact absurd hw.1 (by assumption))
      have lts := rs.lt
      have r10H : SlRep H v10 x.deeds F10 := r10.ext e
      have rsH : SlRep H vS s.attrs Fs := rs.ext e
      obtain ⟨y0, y1, y2, y3, y4, y5, y6, y7, y8, y9, y10⟩ := V
      obtain ⟨b9, o9, e9⟩ := w.r9.sl ht
      have e9 : y9 = .sl b9 o9 x.tasks.length := e9
      subst e9
      have l9 : b9 < _ := sl_lt w.r9
      have bB : Bk H B [AV.int .i64 x.c.stripes, AV.int .i64 x.c.wait, AV.int .i64 x.c.budget, AV.int .i64 x.c.cache, AV.int .i64 x.c.queue, AV.int .i64 x.c.rate, AV.int .i64 x.c.burst, AV.int .i64 x.c.rule.kind, AV.int .i64 x.c.rule.n, AV.str x.c.rule.key, AV.str x.c.rule.text, y0, AV.int .i64 x.time, AV.bool x.shut, y1, AV.int .i64 x.ruleHeld, AV.int .i64 x.b.rate, AV.int .i64 x.b.burst, AV.int .i64 x.b.tokens, AV.int .i64 x.b.at_, y2, AV.int .i64 x.used, AV.int .i64 x.w.now, y3, y4, y5, y6, y7, y8, (AV.sl b9 o9 x.tasks.length), y10, AV.int .i64 x.next] 0 := w.bk
      have hbB := bB.1
      have lt := w.own.2
      have hkk : k' < x.tasks.length := by omega
      have s0 := w.ws
      obtain ⟨et_0, et_1, et_G0, et_G1, et_R, et, et_q0, et_q1, et_O, et_m, et_b, et_n, et_l, et_F, et_cg, et_c⟩ := s0.open9 (bb := b9) (off := o9) ht rfl; have et : EK Task _ _ _ b9 (o9 + k' * 12) [.int .i64 t.op, .int .i64 t.pc, .int .i64 t.s.trace, .int .i64 t.s.id, .int .i64 t.s.start, .int .i64 t.s.fin, .bool t.s.err, et_0, .int .i64 t.trace, .int .i64 t.stamp, et_1, .int .i64 t.h] _ _ _ _ := et
      have hzB : h.n + 1 + 1 ≠ B := by omega
      rw [Int.toNat_natCast]
      (repeat' first|refine vsx ?_|((with_reducible refine aw_nilck ?_))|((with_reducible refine aw_lenS ?_))|((with_reducible refine g_idx ?_);first|refine aw_idx_raw (by omega) ?_|refine aw_idx_i (by omega) (by omega) ?_)|(refine br ?_ ?_<;>intro _<;>try(exfalso;first|omega|contradiction))|((with_reducible refine g_idx ?_);((first|refine ix ?_|refine ixi ?_|(refine ixg ?_;intro _ _)|(refine ixgi ?_;intro _ _));first|rintro _ _ _ _ _ ⟨rfl,rfl⟩ _|rintro _ _ _ _ _ ⟨_,rfl,_⟩ _|rintro _ _ _ _ _ ⟨_,_,_,_,rfl,rfl,_,_⟩ _|intro _ _ _ _ _ _ _))|(refine sx ?_;intro _ _)|((with_reducible refine g_awp ?_);simp only [g0,g1,g2]))
      refine aw_call (s_impl_copySpan s hss _ _ _ ⟨_, rfl, (slr_auto : SlRep _ vS s.attrs Fs)⟩) ?_
      rintro _ h1 ⟨e1, _, G1, rfl, ⟨z1, rfl, q1⟩, o1⟩
      have n1 := e1.1; (try simp only [push_n, upd_n] at n1)
      have oG : ∀ c ∈ G1, H.n + 1 ≤ c := fun c hc => by have := (o1.2 c hc).1; simpa using this
      have nG1 : H.n ∉ G1 := fun hm => by have := oG _ hm; omega
      have lG := q1.lt
      (repeat' first|refine vsx ?_|((with_reducible refine aw_nilck ?_))|((with_reducible refine aw_lenS ?_))|((with_reducible refine g_idx ?_);first|refine aw_idx_raw (by omega) ?_|refine aw_idx_i (by omega) (by omega) ?_)|((with_reducible refine g_chka ?_);refine w_chka bk_auto ?_)|(refine br ?_ ?_<;>intro _<;>try(exfalso;first|omega|contradiction))|((with_reducible refine g_callf n_impl_TimeOf ?_);(refine aw_rcall (s_impl_TimeOf (rep_ext r0' ext_auto)) ?_))|((with_reducible refine g_idx ?_);((first|refine ix ?_|refine ixi ?_|(refine ixg ?_;intro _ _)|(refine ixgi ?_;intro _ _));first|rintro _ _ _ _ _ ⟨rfl,rfl⟩ _|rintro _ _ _ _ _ ⟨_,rfl,_⟩ _|rintro _ _ _ _ _ ⟨_,_,_,_,rfl,rfl,_,_⟩ _|intro _ _ _ _ _ _ _))|(refine sx ?_;intro _ _)|((with_reducible refine g_awp ?_);simp only [g0,g1,g2]))
      by_cases hf : fits x.c s
      · rw [offerW_y hf]
        (repeat' first|refine vsx ?_|((with_reducible refine aw_nilck ?_))|((with_reducible refine aw_lenS ?_))|((with_reducible refine g_idx ?_);first|refine aw_idx_raw (by omega) ?_|refine aw_idx_i (by omega) (by omega) ?_)|((with_reducible refine g_chka ?_);refine w_chka bk_auto ?_)|((with_reducible refine g_len ?_);refine w_len r10H ?_)|(refine br ?_ ?_<;>intro _<;>try(exfalso;first|omega|contradiction))|((with_reducible refine g_callf n_impl_Fits ?_);(refine aw_rcall (s_impl_Fits (c := x.c) (s := s) (F := Fs) oks hss slr_auto) ?_; rw [bp_t hf]))|((with_reducible refine g_idx ?_);((first|refine ix ?_|refine ixi ?_|(refine ixg ?_;intro _ _)|(refine ixgi ?_;intro _ _));first|rintro _ _ _ _ _ ⟨rfl,rfl⟩ _|rintro _ _ _ _ _ ⟨_,rfl,_⟩ _|rintro _ _ _ _ _ ⟨_,_,_,_,rfl,rfl,_,_⟩ _|intro _ _ _ _ _ _ _))|(refine sx ?_;intro _ _)|((with_reducible refine g_awp ?_);simp only [g0,g1,g2]))
        refine aw_call (s_impl_copySpan s hss _ _ _ ⟨_, rfl, (slr_auto : SlRep _ vS s.attrs Fs)⟩) ?_
        rintro _ h2 ⟨e2, _, G2, rfl, ⟨z2, rfl, q2⟩, o2⟩
        have n2 := e2.1; (try simp only [push_n, upd_n] at n2)
        have oG2 : ∀ c ∈ G2, h1.n ≤ c := fun c hc => by have := (o2.2 c hc).1; (try simp only [push_n, upd_n] at this); omega
        (repeat' first|refine vsx ?_|((with_reducible refine aw_nilck ?_))|((with_reducible refine aw_lenS ?_))|((with_reducible refine g_idx ?_);first|refine aw_idx_raw (by omega) ?_|refine aw_idx_i (by omega) (by omega) ?_)|((with_reducible refine g_chka ?_);refine w_chka bk_auto ?_)|(refine br ?_ ?_<;>intro _<;>try(exfalso;first|omega|contradiction))|((with_reducible refine g_idx ?_);((first|refine ix ?_|refine ixi ?_|(refine ixg ?_;intro _ _)|(refine ixgi ?_;intro _ _));first|rintro _ _ _ _ _ ⟨rfl,rfl⟩ _|rintro _ _ _ _ _ ⟨_,rfl,_⟩ _|rintro _ _ _ _ _ ⟨_,_,_,_,rfl,rfl,_,_⟩ _|intro _ _ _ _ _ _ _))|(refine sx ?_;intro _ _)|((with_reducible refine g_awp ?_);simp only [g0,g1,g2]))
        refine EK.st0 (et.ext ext_auto) (by rfl) (by rfl) sp_auto ?_
        intro h4 et k4 n4
        have n4' := n4
        (try simp only [push_n, upd_n] at n4')
        have nb2 : b9 ∉ G2 := fun hm => by have := oG2 _ hm; omega
        have nb1 : b9 ∉ G1 := fun hm => by have := oG _ hm; omega
        obtain ⟨x1, F1, e1x, s1, m1⟩ := et_cg h4 ⟨1, 0, s, 0, 0, [], x.deeds.length⟩ z2 .nils G2 [] et (slr_kp1 k4 q2 (dis_one nb2)) SlRep.nils (by rw [List.append_nil]; exact (ol_kp1 k4 ⟨o2, q2.lt⟩ (dis_one nb2)).1.mono (by simp; omega) fun _ _ => rfl) (fun c hc => by
          rw [List.append_nil] at hc
          have := oG2 c hc
          exact .inr ⟨by omega, fun hF => by have := lt c hF; omega, by omega⟩)
        rw [List.append_nil] at m1
        have bk4 : Bk h4 B [AV.int .i64 x1.c.stripes, AV.int .i64 x1.c.wait, AV.int .i64 x1.c.budget, AV.int .i64 x1.c.cache, AV.int .i64 x1.c.queue, AV.int .i64 x1.c.rate, AV.int .i64 x1.c.burst, AV.int .i64 x1.c.rule.kind, AV.int .i64 x1.c.rule.n, AV.str x1.c.rule.key, AV.str x1.c.rule.text, y0, AV.int .i64 x1.time, AV.bool x1.shut, y1, AV.int .i64 x1.ruleHeld, AV.int .i64 x1.b.rate, AV.int .i64 x1.b.burst, AV.int .i64 x1.b.tokens, AV.int .i64 x1.b.at_, y2, AV.int .i64 x1.used, AV.int .i64 x1.w.now, y3, y4, y5, y6, y7, y8, (AV.sl b9 o9 x.tasks.length), y10, AV.int .i64 x1.next] 0 := s1.w.bk
        have q1' : SlRep h4 z1 s.attrs G1 := slr_kp1 k4 (slr_auto : SlRep h2 z1 s.attrs G1) (dis_one nb1)
        have o1' : Own (H.n + 1) h4 G1 := (ol_kp1 k4 ⟨(ol_auto : Own (H.n + 1) h2 G1), fun c hc => by have := lG c hc; omega⟩ (dis_one nb1)).1
        have z9 : h.n + 1 + 1 ≠ b9 := by omega
        have nz1 : h.n + 1 + 1 ∉ F1.f10 := fun hm => by have := (s1.w.own.1.2 _ (F1.in10 _ hm)).1; omega
        have bz4 : Bk h4 (h.n + 1 + 1) [AV.int .i64 0, AV.int .i64 0, AV.int .i64 0, AV.int .i64 0, AV.int .i64 0, AV.int .i64 0, AV.int .i64 0, AV.int .i64 0, AV.int .i64 0, AV.str ⟨#[]⟩, AV.str ⟨#[]⟩, AV.nils, AV.int .i64 0, AV.bool false, AV.nils, AV.int .i64 0, AV.int .i64 0, AV.int .i64 0, AV.int .i64 0, AV.int .i64 0, AV.nils, AV.int .i64 0, AV.int .i64 0, AV.nils, AV.nils, AV.nils, AV.nils, AV.nils, AV.nils, AV.nils, AV.nils, AV.int .i64 0] 0 := bk_kp1 k4 (bk_auto : Bk h2 (h.n + 1 + 1) [AV.int .i64 0, AV.int .i64 0, AV.int .i64 0, AV.int .i64 0, AV.int .i64 0, AV.int .i64 0, AV.int .i64 0, AV.int .i64 0, AV.int .i64 0, AV.str ⟨#[]⟩, AV.str ⟨#[]⟩, AV.nils, AV.int .i64 0, AV.bool false, AV.nils, AV.int .i64 0, AV.int .i64 0, AV.int .i64 0, AV.int .i64 0, AV.int .i64 0, AV.nils, AV.int .i64 0, AV.int .i64 0, AV.nils, AV.nils, AV.nils, AV.nils, AV.nils, AV.nils, AV.nils, AV.nils, AV.int .i64 0] 0) (nin_one z9)
        (repeat' first|refine vsy ?_|((with_reducible refine aw_nilck ?_))|((with_reducible refine aw_lenS ?_))|((with_reducible refine g_idx ?_);first|refine aw_idx_raw (by omega) ?_|refine aw_idx_i (by omega) (by omega) ?_)|(refine br ?_ ?_<;>intro _<;>try(exfalso;first|omega|contradiction))|((with_reducible refine g_idx ?_);((first|refine ix ?_|refine ixi ?_|(refine ixg ?_;intro _ _)|(refine ixgi ?_;intro _ _));first|rintro _ _ _ _ _ ⟨rfl,rfl⟩ _|rintro _ _ _ _ _ ⟨_,rfl,_⟩ _|rintro _ _ _ _ _ ⟨_,_,_,_,rfl,rfl,_,_⟩ _|intro _ _ _ _ _ _ _))|(refine sx ?_;intro _ _)|((with_reducible refine g_awp ?_);simp only [g0,g1,g2]))
        have hd1 : x1.deeds.length ≤ 67108864 := by rw [e1x]; show x.deeds.length ≤ _; omega
        (repeat' first|refine vsx ?_|((with_reducible refine aw_nilck ?_))|((with_reducible refine aw_lenS ?_))|((with_reducible refine g_idx ?_);first|refine aw_idx_raw (by omega) ?_|refine aw_idx_i (by omega) (by omega) ?_)|(refine br ?_ ?_<;>intro _<;>try(exfalso;first|omega|contradiction))|((with_reducible refine g_idx ?_);((first|refine ix ?_|refine ixi ?_|(refine ixg ?_;intro _ _)|(refine ixgi ?_;intro _ _));first|rintro _ _ _ _ _ ⟨rfl,rfl⟩ _|rintro _ _ _ _ _ ⟨_,rfl,_⟩ _|rintro _ _ _ _ _ ⟨_,_,_,_,rfl,rfl,_,_⟩ _|intro _ _ _ _ _ _ _))|(refine sx ?_;intro _ _)|((with_reducible refine g_awp ?_);simp only [g0,g1,g2]))
        refine s1.app10 (a := ⟨1, k', s, 0, 0, 0, false, false, 0, 0, 0, x.w.now, x.time, -1, -1⟩) (G := G1) (q := H.n) ⟨_, rfl, q1'⟩ (o1'.mono (by omega) fun _ _ => rfl) ⟨by omega, Nat.le_refl _⟩ (fun c hc => ⟨by have := oG c hc; omega, fun hm => by
          rcases m1 c hm with a | a
          · have := lt c a; have := oG c hc; omega
          · have := oG2 c a; have := lG c hc; omega⟩) (by omega) (by omega) ?_
        intro v' h6 k6 b6 cv6 fin
        have bk6 : Bk h6 B [AV.int .i64 x1.c.stripes, AV.int .i64 x1.c.wait, AV.int .i64 x1.c.budget, AV.int .i64 x1.c.cache, AV.int .i64 x1.c.queue, AV.int .i64 x1.c.rate, AV.int .i64 x1.c.burst, AV.int .i64 x1.c.rule.kind, AV.int .i64 x1.c.rule.n, AV.str x1.c.rule.key, AV.str x1.c.rule.text, y0, AV.int .i64 x1.time, AV.bool x1.shut, y1, AV.int .i64 x1.ruleHeld, AV.int .i64 x1.b.rate, AV.int .i64 x1.b.burst, AV.int .i64 x1.b.tokens, AV.int .i64 x1.b.at_, y2, AV.int .i64 x1.used, AV.int .i64 x1.w.now, y3, y4, y5, y6, y7, y8, (AV.sl b9 o9 x.tasks.length), y10, AV.int .i64 x1.next] 0 := b6
        have hb6 := bk6.1
        have bz6 : Bk h6 (h.n + 1 + 1) [AV.int .i64 0, AV.int .i64 0, AV.int .i64 0, AV.int .i64 0, AV.int .i64 0, AV.int .i64 0, AV.int .i64 0, AV.int .i64 0, AV.int .i64 0, AV.str ⟨#[]⟩, AV.str ⟨#[]⟩, AV.nils, AV.int .i64 0, AV.bool false, AV.nils, AV.int .i64 0, AV.int .i64 0, AV.int .i64 0, AV.int .i64 0, AV.int .i64 0, AV.nils, AV.int .i64 0, AV.int .i64 0, AV.nils, AV.nils, AV.nils, AV.nils, AV.nils, AV.nils, AV.nils, AV.nils, AV.int .i64 0] 0 := bk_kp1 k6 bz4 nz1
        (repeat' first|((with_reducible refine g_st ?_);refine w_st cv6 rfl (wr_bk bk6 sp_auto) ?_)|refine vsx ?_|((with_reducible refine aw_nilck ?_))|((with_reducible refine aw_lenS ?_))|((with_reducible refine g_idx ?_);first|refine aw_idx_raw (by omega) ?_|refine aw_idx_i (by omega) (by omega) ?_)|(refine br ?_ ?_<;>intro _<;>try(exfalso;first|omega|contradiction))|((with_reducible refine g_idx ?_);((first|refine ix ?_|refine ixi ?_|(refine ixg ?_;intro _ _)|(refine ixgi ?_;intro _ _));first|rintro _ _ _ _ _ ⟨rfl,rfl⟩ _|rintro _ _ _ _ _ ⟨_,rfl,_⟩ _|rintro _ _ _ _ _ ⟨_,_,_,_,rfl,rfl,_,_⟩ _|intro _ _ _ _ _ _ _))|(refine sx ?_;intro _ _)|((with_reducible refine g_awp ?_);simp only [g0,g1,g2]))
        refine fin (fun x7 F7 e7 s7 m7 => ?_) (bk_upd hb6) rfl kp_upd
        refine aw_addw ?_
        subst e7
        subst e1x
        have s8 := s7.put (x' := { x with tasks := x.tasks.set k' ⟨1, 0, s, 0, 0, [], x.deeds.length⟩, deeds := x.deeds ++ [⟨1, k', s, 0, 0, 0, false, false, 0, 0, 0, x.w.now, x.time, -1, -1⟩], time := wr (x.time + 1) }) (h' := (h6.upd B ⟨_, 0, 0⟩).upd B ⟨_, 0, 0⟩) (bk_upd (by simpa using hb6)) kp_upd
        (repeat' first|refine vsw ?_|((with_reducible refine aw_nilck ?_))|((with_reducible refine aw_lenS ?_))|((with_reducible refine g_idx ?_);first|refine aw_idx_raw (by omega) ?_|refine aw_idx_i (by omega) (by omega) ?_)|(refine br ?_ ?_<;>intro _<;>try(exfalso;first|omega|contradiction))|((with_reducible refine g_idx ?_);((first|refine ix ?_|refine ixi ?_|(refine ixg ?_;intro _ _)|(refine ixgi ?_;intro _ _));first|rintro _ _ _ _ _ ⟨rfl,rfl⟩ _|rintro _ _ _ _ _ ⟨_,rfl,_⟩ _|rintro _ _ _ _ _ ⟨_,_,_,_,rfl,rfl,_,_⟩ _|intro _ _ _ _ _ _ _))|(refine sx ?_;intro _ _)|((with_reducible refine g_awp ?_);simp only [g0,g1,g2]))
        exact ret_s w bz e (by omega) s8
      · rw [offerW_n hf]
        (repeat' first|refine vsy ?_|((with_reducible refine aw_nilck ?_))|((with_reducible refine aw_lenS ?_))|((with_reducible refine g_idx ?_);first|refine aw_idx_raw (by omega) ?_|refine aw_idx_i (by omega) (by omega) ?_)|((with_reducible refine g_chka ?_);refine w_chka bk_auto ?_)|(refine br ?_ ?_<;>intro _<;>try(exfalso;first|omega|contradiction))|((with_reducible refine g_callf n_impl_Fits ?_);(refine aw_rcall (s_impl_Fits (c := x.c) (s := s) (F := Fs) oks hss slr_auto) ?_; rw [bp_f hf]))|((with_reducible refine g_idx ?_);((first|refine ix ?_|refine ixi ?_|(refine ixg ?_;intro _ _)|(refine ixgi ?_;intro _ _));first|rintro _ _ _ _ _ ⟨rfl,rfl⟩ _|rintro _ _ _ _ _ ⟨_,rfl,_⟩ _|rintro _ _ _ _ _ ⟨_,_,_,_,rfl,rfl,_,_⟩ _|intro _ _ _ _ _ _ _))|(refine sx ?_;intro _ _)|((with_reducible refine g_awp ?_);simp only [g0,g1,g2]))
        have s1 := s0.ext (ext_auto : Ext H ((((h1.upd H.n ⟨[.int .i64 1, .int .i64 k', .int .i64 s.trace, .int .i64 s.id, .int .i64 s.start, .int .i64 s.fin, .bool s.err, z1, .int .i64 0, .int .i64 0, .int .i64 0, .bool false, .bool false, .int .i64 0, .int .i64 0, .int .i64 0, .int .i64 x.w.now, .int .i64 x.time, .int .i64 (-1), .int .i64 (-1)], 0, 0⟩).upd H.n ⟨[.int .i64 1, .int .i64 k', .int .i64 s.trace, .int .i64 s.id, .int .i64 s.start, .int .i64 s.fin, .bool s.err, z1, .int .i64 0, .int .i64 0, .int .i64 5, .bool false, .bool false, .int .i64 0, .int .i64 0, .int .i64 0, .int .i64 x.w.now, .int .i64 x.time, .int .i64 (-1), .int .i64 (-1)], 0, 0⟩).upd H.n ⟨[.int .i64 1, .int .i64 k', .int .i64 s.trace, .int .i64 s.id, .int .i64 s.start, .int .i64 s.fin, .bool s.err, z1, .int .i64 0, .int .i64 0, .int .i64 5, .bool false, .bool false, .int .i64 0, .int .i64 0, .int .i64 0, .int .i64 x.w.now, .int .i64 x.time, .int .i64 x.time, .int .i64 (-1)], 0, 0⟩).upd H.n ⟨[.int .i64 1, .int .i64 k', .int .i64 s.trace, .int .i64 s.id, .int .i64 s.start, .int .i64 s.fin, .bool s.err, z1, .int .i64 0, .int .i64 0, .int .i64 5, .bool false, .bool false, .int .i64 0, .int .i64 0, .int .i64 0, .int .i64 x.w.now, .int .i64 x.time, .int .i64 x.time, .int .i64 x.time], 0, 0⟩))
        (repeat' first|refine vsx ?_|((with_reducible refine aw_nilck ?_))|((with_reducible refine aw_lenS ?_))|((with_reducible refine g_idx ?_);first|refine aw_idx_raw (by omega) ?_|refine aw_idx_i (by omega) (by omega) ?_)|(refine br ?_ ?_<;>intro _<;>try(exfalso;first|omega|contradiction))|((with_reducible refine g_idx ?_);((first|refine ix ?_|refine ixi ?_|(refine ixg ?_;intro _ _)|(refine ixgi ?_;intro _ _));first|rintro _ _ _ _ _ ⟨rfl,rfl⟩ _|rintro _ _ _ _ _ ⟨_,rfl,_⟩ _|rintro _ _ _ _ _ ⟨_,_,_,_,rfl,rfl,_,_⟩ _|intro _ _ _ _ _ _ _))|(refine sx ?_;intro _ _)|((with_reducible refine g_awp ?_);simp only [g0,g1,g2]))
        refine s1.app10 (a := ⟨1, k', s, 0, 0, 5, false, false, 0, 0, 0, x.w.now, x.time, x.time, x.time⟩) (G := G1) (q := H.n) ⟨_, rfl, slr_auto⟩ ((ol_auto : Own (H.n + 1) _ G1).mono (by omega) fun _ _ => rfl) ⟨by omega, Nat.le_refl _⟩ (fun c hc => ⟨by have := oG c hc; omega, fun hm => by have := lt c hm; have := oG c hc; omega⟩) (by omega) (by omega) ?_
        intro v' h6 k6 b6 cv6 fin
        have bk6 : Bk h6 B [AV.int .i64 x.c.stripes, AV.int .i64 x.c.wait, AV.int .i64 x.c.budget, AV.int .i64 x.c.cache, AV.int .i64 x.c.queue, AV.int .i64 x.c.rate, AV.int .i64 x.c.burst, AV.int .i64 x.c.rule.kind, AV.int .i64 x.c.rule.n, AV.str x.c.rule.key, AV.str x.c.rule.text, y0, AV.int .i64 x.time, AV.bool x.shut, y1, AV.int .i64 x.ruleHeld, AV.int .i64 x.b.rate, AV.int .i64 x.b.burst, AV.int .i64 x.b.tokens, AV.int .i64 x.b.at_, y2, AV.int .i64 x.used, AV.int .i64 x.w.now, y3, y4, y5, y6, y7, y8, (AV.sl b9 o9 x.tasks.length), y10, AV.int .i64 x.next] 0 := b6
        have hb6 := bk6.1
        have nz1 : h.n + 1 + 1 ∉ G.f10 := fun hm => by have := (w.own.1.2 _ (G.in10 _ hm)).1; omega
        have bz6 : Bk h6 (h.n + 1 + 1) [AV.int .i64 0, AV.int .i64 0, AV.int .i64 0, AV.int .i64 0, AV.int .i64 0, AV.int .i64 0, AV.int .i64 0, AV.int .i64 0, AV.int .i64 0, AV.str ⟨#[]⟩, AV.str ⟨#[]⟩, AV.nils, AV.int .i64 0, AV.bool false, AV.nils, AV.int .i64 0, AV.int .i64 0, AV.int .i64 0, AV.int .i64 0, AV.int .i64 0, AV.nils, AV.int .i64 0, AV.int .i64 0, AV.nils, AV.nils, AV.nils, AV.nils, AV.nils, AV.nils, AV.nils, AV.nils, AV.int .i64 0] 0 := bk_kp1 k6 bk_auto nz1
        (repeat' first|((with_reducible refine g_st ?_);refine w_st cv6 rfl (wr_bk bk6 sp_auto) ?_)|refine vsx ?_|((with_reducible refine aw_nilck ?_))|((with_reducible refine aw_lenS ?_))|((with_reducible refine g_idx ?_);first|refine aw_idx_raw (by omega) ?_|refine aw_idx_i (by omega) (by omega) ?_)|(refine br ?_ ?_<;>intro _<;>try(exfalso;first|omega|contradiction))|((with_reducible refine g_idx ?_);((first|refine ix ?_|refine ixi ?_|(refine ixg ?_;intro _ _)|(refine ixgi ?_;intro _ _));first|rintro _ _ _ _ _ ⟨rfl,rfl⟩ _|rintro _ _ _ _ _ ⟨_,rfl,_⟩ _|rintro _ _ _ _ _ ⟨_,_,_,_,rfl,rfl,_,_⟩ _|intro _ _ _ _ _ _ _))|(refine sx ?_;intro _ _)|((with_reducible refine g_awp ?_);simp only [g0,g1,g2]))
        refine fin (fun x7 F7 e7 s7 m7 => ?_) (bk_upd hb6) rfl kp_upd
        refine aw_addw ?_
        subst e7
        have s8 := s7.put (x' := { x with deeds := x.deeds ++ [⟨1, k', s, 0, 0, 5, false, false, 0, 0, 0, x.w.now, x.time, x.time, x.time⟩], time := wr (x.time + 1) }) (h' := (h6.upd B ⟨_, 0, 0⟩).upd B ⟨_, 0, 0⟩) (bk_upd (by simpa using hb6)) kp_upd
        (repeat' first|refine vsw ?_|((with_reducible refine aw_nilck ?_))|((with_reducible refine aw_lenS ?_))|((with_reducible refine g_idx ?_);first|refine aw_idx_raw (by omega) ?_|refine aw_idx_i (by omega) (by omega) ?_)|(refine br ?_ ?_<;>intro _<;>try(exfalso;first|omega|contradiction))|((with_reducible refine g_idx ?_);((first|refine ix ?_|refine ixi ?_|(refine ixg ?_;intro _ _)|(refine ixgi ?_;intro _ _));first|rintro _ _ _ _ _ ⟨rfl,rfl⟩ _|rintro _ _ _ _ _ ⟨_,rfl,_⟩ _|rintro _ _ _ _ _ ⟨_,_,_,_,rfl,rfl,_,_⟩ _|intro _ _ _ _ _ _ _))|(refine sx ?_;intro _ _)|((with_reducible refine g_awp ?_);simp only [g0,g1,g2]))
        exact ret_s w bz e (by omega) s8
    · rw [offerP_n fun c => hg (by obtain ⟨t', ht', q⟩ := c.2.2; simp only [Int.toNat_natCast] at ht'; rw [ht] at ht'; cases ht'; exact q)]
      (repeat' first|refine vs ?_|(refine br ?_ ?_<;>intro _<;>try(exfalso;first|omega|contradiction))|((with_reducible refine g_callf n_impl_WorldOk ?_);(refine aw_rcall_b (s_impl_WorldOk (x := x) ok hs0 ⟨_, _, _, _, _, _, _, _, _, _, _, _, _, _, _, _, _, _, _, _, _, _, rfl, rfl, slr_auto, slr_auto, slr_auto, slr_auto, slr_auto, slr_auto, slr_auto, slr_auto, slr_auto, slr_auto, slr_auto⟩) ?_ ?_ <;> intro hn <;> first | replace hn := bp_true hn | replace hn := bp_false hn))|((with_reducible refine g_callf n_impl_within ?_);(refine aw_rcall_b (s_impl_within) ?_ ?_ <;> intro hb <;> (first | replace hb := inB_t hb | replace hb := inB_f hb)))|((with_reducible refine g_idx ?_);((first|refine ix ?_|refine ixi ?_|(refine ixg ?_;intro _ _)|(refine ixgi ?_;intro _ _));first|rintro _ _ _ _ _ ⟨rfl,rfl⟩ _|rintro _ _ _ _ _ ⟨_,rfl,_⟩ _|rintro _ _ _ _ _ ⟨_,_,_,_,rfl,rfl,_,_⟩ _|intro _ _ _ _ _ _ _))|(refine sx ?_;intro _ _)|((with_reducible refine g_awp ?_);simp only [g0,g1,g2]))
      all_goals first
        | (exfalso; first | omega | exact absurd hw.1 (by assumption))
        | exact ret_e w bz e (by omega)
  · rw [offerP_n fun c => hw ⟨c.1, c.2.1⟩]
    (repeat' first|refine vs ?_|(refine br ?_ ?_<;>intro _<;>try(exfalso;first|omega|contradiction))|((with_reducible refine g_callf n_impl_WorldOk ?_);(refine aw_rcall_b (s_impl_WorldOk (x := x) ok hs0 ⟨_, _, _, _, _, _, _, _, _, _, _, _, _, _, _, _, _, _, _, _, _, _, rfl, rfl, slr_auto, slr_auto, slr_auto, slr_auto, slr_auto, slr_auto, slr_auto, slr_auto, slr_auto, slr_auto, slr_auto⟩) ?_ ?_ <;> intro hn <;> first | replace hn := bp_true hn | replace hn := bp_false hn))|((with_reducible refine g_callf n_impl_within ?_);(refine aw_rcall_b (s_impl_within) ?_ ?_ <;> intro hb <;> (first | replace hb := inB_t hb | replace hb := inB_f hb)))|((with_reducible refine g_idx ?_);((first|refine ix ?_|refine ixi ?_|(refine ixg ?_;intro _ _)|(refine ixgi ?_;intro _ _));first|rintro _ _ _ _ _ ⟨rfl,rfl⟩ _|rintro _ _ _ _ _ ⟨_,rfl,_⟩ _|rintro _ _ _ _ _ ⟨_,_,_,_,rfl,rfl,_,_⟩ _|intro _ _ _ _ _ _ _))|(refine sx ?_;intro _ _)|((with_reducible refine g_awp ?_);simp only [g0,g1,g2]))
    all_goals first
      | exact absurd ⟨by assumption, by omega⟩ hw
      | exact ret_e w bz e (by omega)
end Go.Proofs.YtekfdoknfcedpaaGreat
