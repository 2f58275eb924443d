import Derived.Test.YtekfdoknfcedpaaGreatCKW1
/- Which tasks may be. -/
set_option linter.unusedSimpArgs false
set_option linter.unusedVariables false
set_option maxHeartbeats 4000000
namespace Go.Proofs.YtekfdoknfcedpaaGreat
open Go Go.Ab
section
/- slices.EqualFunc[[]impl.Item,[]impl.Item,impl.Item,impl.Item] -/
def p_slices_EqualFunc_Item (x0 x1 x2 : AV) : Prog := Ln 0 x0 fun a=>Ln 0 x1 fun b=>Bn .neq a b fun a=>.ite a (.fin [.val (.bool false)]) (Ln 0 x0 fun a=>.loop [.int .i64 0] (fun b=>Bn .lss (g b 0) a fun a=>.ite a (Ix 7 x0 (g b 0) fun a=>Ld 7 a fun a=>.op (.alloc z7_a90) fun c=>.op (.st 7 c a) fun _=>Ix 7 x1 (g b 0) fun a=>Ld 7 a fun a=>.op (.alloc z7_a90) fun d=>.op (.st 7 d a) fun _=>Ld 7 c fun a=>Ld 7 d fun c=>.op (.callv x2 [a, c]) fun a=>.op (.una .not a) fun a=>.ite a (.fin [.val (.bool false)]) (Bn .add (g b 0) (.int .i64 1) fun a=>.leaf 0 [a])) (.leaf 2 [g b 0])) fun a b=>tsel a 1 (.leaf 1 b) (tsel a 2 (.fin [.val (.bool true)]) .bad))
theorem c_slices_EqualFunc_Item (x0 x1 x2 : AV) : CC Tryz.prog n_slices_EqualFunc_Item [x0, x1, x2] (p_slices_EqualFunc_Item x0 x1 x2) := cc Tryz.func318 [1, 2, 15, 16, 17] (fun _ => [])
/- impl.sameTask -/
def p_impl_sameTask (x0 x1 : AV) : Prog := .op (.box x0) fun a=>.op (.box x1) fun b=>Lg 0 a fun c=>Lg 0 b fun d=>Bn .eql c d fun c=>Gf c true 1 a fun d=>Gf c true 1 b fun e=>.gop c true (.bin 0 .eql d e) fun d=>Pk c d (.bool false) fun c=>.gop c true (.fad 2 a) fun d=>.gop c true (.ldn 6 d) fun d=>.gop c true (.fad 2 b) fun e=>.gop c true (.ldn 6 e) fun e=>.gop c true (.call n_impl_SameSpan [d, e]) fun d=>Pk c d (.bool false) fun c=>Gf c true 8 a fun d=>Gf c true 8 b fun e=>.gop c true (.bin 0 .eql d e) fun d=>Pk c d (.bool false) fun c=>Gf c true 9 a fun d=>Gf c true 9 b fun e=>.gop c true (.bin 0 .eql d e) fun d=>Pk c d (.bool false) fun c=>Gf c true 10 a fun d=>Gf c true 10 b fun e=>.gop c true (.call n_slices_EqualFunc_Item [d, e, .fn n_impl_SameItem []]) fun d=>Pk c d (.bool false) fun c=>Gf c true 11 a fun a=>Gf c true 11 b fun b=>.gop c true (.bin 0 .eql a b) fun a=>Pk c a (.bool false) fun a=>.fin [.val a]
theorem c_impl_sameTask (x0 x1 : AV) : CC Tryz.prog n_impl_sameTask [x0, x1] (p_impl_sameTask x0 x1) := cc Tryz.func273
/- impl.handOk -/
def p_impl_handOk (x0 : AV) : Prog := .op (.box x0) fun a=>Lg 10 a fun b=>Ln 0 b fun c=>.loop [.int .i64 0] (fun d=>Bn .lss (g d 0) c fun c=>.ite c (Ix 7 b (g d 0) fun b=>Ld 7 b fun b=>.op (.alloc z7_a90) fun c=>.op (.st 7 c b) fun _=>Ld 7 c fun b=>Cl n_impl_ItemOk [b] fun b=>.op (.una .not b) fun b=>Gf b false 0 c fun c=>Gf b false 9 a fun a=>.gop b false (.bin 0 .neq c a) fun a=>Pk b (.bool true) a fun a=>.ite a (.fin [.val (.bool false)]) (Bn .add (g d 0) (.int .i64 1) fun a=>.leaf 0 [a])) (.leaf 2 [g d 0])) fun b c=>tsel b 1 (.leaf 1 c) (tsel b 2 (Lg 1 a fun b=>Bn .eql b (.int .i64 3) fun b=>Lg 10 a fun a=>Ln 0 a fun a=>Bn .gtr a (.int .i64 0) fun a=>.op (.bin 2 .eql b a) fun a=>.fin [.val a]) .bad)
theorem c_impl_handOk (x0 : AV) : CC Tryz.prog n_impl_handOk [x0] (p_impl_handOk x0) := cc Tryz.func275 [1, 6, 7, 8] (fun _ => [])
/- impl.TaskOk -/
def p_impl_TaskOk (x0 x1 : AV) : Prog := .op (.box x0) fun a=>Cl n_impl_within [x1, .int .i64 0, .int .i64 4] fun b=>.op (.una .not b) fun b=>Gf b false 1 a fun c=>.gop b false (.call n_impl_within [c, .int .i64 0, .int .i64 3]) fun c=>.gop b false (.una .not c) fun c=>Pk b (.bool true) c fun b=>Gf b false 11 a fun c=>.gop b false (.bin 0 .lss c (.int .i64 0)) fun c=>Pk b (.bool true) c fun b=>.ite b (.fin [.val (.bool false)]) (Lg 0 a fun b=>Bn .eql b (.int .i64 1) fun b=>.gop b true (.mv x1) fun c=>.gop b true (.bin 0 .lss c (.int .i64 3)) fun c=>Pk b c (.bool false) fun b=>Lg 0 a fun c=>Bn .eql c (.int .i64 2) fun c=>.gop c true (.mv x1) fun d=>.gop c true (.bin 0 .geq d (.int .i64 3)) fun d=>Pk c d (.bool false) fun c=>Lg 8 a fun d=>Bn .eql d (.int .i64 0) fun d=>Gf d true 9 a fun e=>.gop d true (.bin 0 .eql e (.int .i64 0)) fun e=>Pk d e (.bool false) fun d=>Lg 8 a fun e=>Cl n_impl_within [e, .int .i64 1, .int .i64 999] fun e=>Gf e true 9 a fun f=>.gop e true (.bin 0 .geq f (.int .i64 1)) fun f=>Pk e f (.bool false) fun e=>Lg 0 a fun f=>Bn .eql f (.int .i64 0) fun f=>.ite f (Ld 12 a fun a=>.op (.build z12_f83 []) fun b=>Cl n_impl_sameTask [a, b] fun a=>.fin [.val a]) (.ite b (.op (.fad 2 a) fun b=>Ld 6 b fun b=>Cl n_impl_SpanOk [b] fun b=>Gf b true 1 a fun c=>.gop b true (.bin 0 .eql c (.int .i64 3)) fun c=>.gop b true (.mv c) fun c=>.gop c true (.mv e) fun e=>.gop b true (.pick c e (.bool false)) fun c=>.gop b true (.mv c) fun c=>Gf c false 1 a fun e=>.gop c false (.bin 0 .neq e (.int .i64 3)) fun e=>.gop c false (.mv e) fun e=>.gop e true (.mv d) fun d=>.gop c false (.pick e d (.bool false)) fun d=>.gop b true (.pick c (.bool true) d) fun c=>Pk b c (.bool false) fun b=>Gf b true 10 a fun a=>.gop b true (.len 0 a) fun a=>.gop b true (.bin 0 .eql a (.int .i64 0)) fun a=>Pk b a (.bool false) fun a=>.fin [.val a]) (.ite c (.gop e true (.fad 2 a) fun b=>.gop e true (.ldn 6 b) fun b=>.gop e true (.build z6_822 []) fun c=>.gop e true (.call n_impl_SameSpan [b, c]) fun b=>Pk e b (.bool false) fun b=>.gop b true (.ldn 12 a) fun a=>.gop b true (.call n_impl_handOk [a]) fun a=>Pk b a (.bool false) fun a=>.fin [.val a]) (.fin [.val (.bool false)]))))
theorem c_impl_TaskOk (x0 x1 : AV) : CC Tryz.prog n_impl_TaskOk [x0, x1] (p_impl_TaskOk x0 x1) := cc Tryz.func204
/- spec.l14NoSpan -/
def p_spec_l14NoSpan (x0 : AV) : Prog := .op (.box x0) fun a=>Ld 6 a fun a=>.op (.build z6_822 []) fun b=>Cl n_spec_SameSpan [a, b] fun a=>.fin [.val a]
theorem c_spec_l14NoSpan (x0 : AV) : CC Tryz.prog n_spec_l14NoSpan [x0] (p_spec_l14NoSpan x0) := cc Tryz.func254
/- spec.TaskOk -/
def p_spec_TaskOk (x0 x1 : AV) : Prog := .op (.box x0) fun a=>Lg 11 a fun b=>Bn .lss b (.int .i64 0) fun b=>Gf b false 1 a fun c=>.gop b false (.call n_spec_l1In [c, .int .i64 0, .int .i64 3]) fun c=>.gop b false (.una .not c) fun c=>Pk b (.bool true) c fun b=>.gop b false (.mv x1) fun c=>.gop b false (.call n_spec_l1In [c, .int .i64 0, .int .i64 4]) fun c=>.gop b false (.una .not c) fun c=>Pk b (.bool true) c fun b=>.ite b (.fin [.val (.bool false)]) (Lg 0 a fun b=>Bn .eql b (.int .i64 0) fun c=>.ite c (Lg 1 a fun b=>Bn .eql b (.int .i64 0) fun b=>.gop b true (.fad 2 a) fun c=>.gop b true (.ldn 6 c) fun c=>.gop b true (.call n_spec_l14NoSpan [c]) fun c=>Pk b c (.bool false) fun b=>Gf b true 8 a fun c=>.gop b true (.bin 0 .eql c (.int .i64 0)) fun c=>Pk b c (.bool false) fun b=>Gf b true 9 a fun c=>.gop b true (.bin 0 .eql c (.int .i64 0)) fun c=>Pk b c (.bool false) fun b=>Gf b true 10 a fun c=>.gop b true (.len 0 c) fun c=>.gop b true (.bin 0 .eql c (.int .i64 0)) fun c=>Pk b c (.bool false) fun b=>Gf b true 11 a fun a=>.gop b true (.bin 0 .eql a (.int .i64 0)) fun a=>Pk b a (.bool false) fun a=>.fin [.val a]) (Bn .eql b (.int .i64 1) fun c=>.ite c (Bn .geq x1 (.int .i64 3) fun b=>.gop b false (.fad 2 a) fun c=>.gop b false (.ldn 6 c) fun c=>.gop b false (.call n_spec_SpanOk [c]) fun c=>.gop b false (.una .not c) fun c=>Pk b (.bool true) c fun b=>Gf b false 10 a fun c=>.gop b false (.len 0 c) fun c=>.gop b false (.bin 0 .gtr c (.int .i64 0)) fun c=>Pk b (.bool true) c fun b=>.ite b (.fin [.val (.bool false)]) (Lg 1 a fun b=>Bn .eql b (.int .i64 3) fun b=>.ite b (Lg 8 a fun b=>Cl n_spec_l1In [b, .int .i64 1, .int .i64 999] fun b=>Gf b true 9 a fun a=>.gop b true (.bin 0 .geq a (.int .i64 1)) fun a=>Pk b a (.bool false) fun a=>.fin [.val a]) (Lg 8 a fun b=>Bn .eql b (.int .i64 0) fun b=>Gf b true 9 a fun a=>.gop b true (.bin 0 .eql a (.int .i64 0)) fun a=>Pk b a (.bool false) fun a=>.fin [.val a]))) (Bn .eql b (.int .i64 2) fun b=>.ite b (.loop [.int .i64 0] (fun b=>Lg 10 a fun c=>Ln 0 c fun c=>Bn .lss (g b 0) c fun c=>.ite c (Lg 10 a fun c=>Ix 7 c (g b 0) fun c=>Ld 7 c fun c=>Cl n_spec_ItemOk [c] fun c=>.op (.una .not c) fun c=>Gf c false 10 a fun d=>.gop c false (.mv (g b 0)) fun e=>.gop c false (.idx 7 d e) fun d=>Gf c false 0 d fun d=>Gf c false 9 a fun a=>.gop c false (.bin 0 .neq d a) fun a=>Pk c (.bool true) a fun a=>.ite a (.fin [.val (.bool false)]) (Bn .add (g b 0) (.int .i64 1) fun a=>.leaf 0 [a])) (.leaf 3 [g b 0])) fun b c=>tsel b 1 (.leaf 1 c) (tsel b 3 (Bn .geq x1 (.int .i64 3) fun b=>.gop b true (.fad 2 a) fun c=>.gop b true (.ldn 6 c) fun c=>.gop b true (.call n_spec_l14NoSpan [c]) fun c=>Pk b c (.bool false) fun b=>Gf b true 8 a fun c=>.gop b true (.call n_spec_l1In [c, .int .i64 1, .int .i64 999]) fun c=>Pk b c (.bool false) fun b=>Gf b true 9 a fun c=>.gop b true (.bin 0 .geq c (.int .i64 1)) fun c=>Pk b c (.bool false) fun b=>Gf b true 1 a fun c=>.gop b true (.bin 0 .eql c (.int .i64 3)) fun c=>Gf b true 10 a fun a=>.gop b true (.len 0 a) fun a=>.gop b true (.bin 0 .gtr a (.int .i64 0)) fun a=>.gop b true (.bin 2 .eql c a) fun a=>Pk b a (.bool false) fun a=>.fin [.val a]) .bad)) (.fin [.val (.bool false)]))))
theorem c_spec_TaskOk (x0 x1 : AV) : CC Tryz.prog n_spec_TaskOk [x0, x1] (p_spec_TaskOk x0 x1) := cc Tryz.func180 [1, 2, 5] (fun r => if r = 16 then [(0, []), (1, []), (2, []), (3, []), (4, []), (5, []), (6, []), (7, []), (8, []), (9, []), (10, []), (11, []), (12, []), (13, []), (14, []), (15, []), (16, []), (17, [])] else [])
end
def zeroS : Span := ⟨0, 0, 0, 0, false, []⟩
def zeroK : Task := ⟨0, 0, zeroS, 0, 0, [], 0⟩
theorem slrep_0 {h : AH} {α : Type} [Cel α] : SlRep h .nils ([] : List α) [] := SlRep.nils
def handOk (t : Task) : Prop := (∀ x ∈ t.hand, itemOk x ∧ x.stamp = t.stamp) ∧ (t.pc = 3 ↔ 0 < (t.hand.length : Int))
def taskOk (t : Task) (k : Int) : Prop := 0 ≤ t.h ∧ (0 ≤ t.pc ∧ t.pc ≤ 3) ∧ (0 ≤ k ∧ k ≤ 4) ∧
  (t = zeroK ∨
   (t.op = 1 ∧ k < 3 ∧ spanOk t.s ∧ (t.hand.length : Int) = 0 ∧ ((t.pc = 3 ∧ (1 ≤ t.trace ∧ t.trace ≤ 999) ∧ 1 ≤ t.stamp) ∨ (t.pc ≠ 3 ∧ t.trace = 0 ∧ t.stamp = 0))) ∨
   (t.op = 2 ∧ 3 ≤ k ∧ handOk t ∧ t.s = zeroS ∧ (1 ≤ t.trace ∧ t.trace ≤ 999) ∧ 1 ≤ t.stamp))
theorem task_eq {a b : Task} : a = b ↔ a.op = b.op ∧ a.pc = b.pc ∧ a.s = b.s ∧ a.trace = b.trace ∧ a.stamp = b.stamp ∧ a.hand = b.hand ∧ a.h = b.h := by
  cases a; cases b; simp

theorem s_slices_EqualFunc_Item {h : AH} {xs ys : List Itm} {v0 v1 : AV} {F G : List Nat} (r : SlRep h v0 xs F) (r' : SlRep h v1 ys G) : RCalls Tryz.prog n_slices_EqualFunc_Item [v0, v1, .fn n_impl_SameItem []] h (.bool (bp (xs = ys))) := by
  refine reader (c_slices_EqualFunc_Item _ _ _) (by simp only [old]) ?_
  refine eqF_spec (w := 7) rfl rfl r r' ?_
  rintro x _ y cs cs' F F' h' _ ⟨w, rfl, q⟩ ⟨w', rfl, q'⟩
  exact s_impl_SameItem q q'
theorem s_impl_sameTask {h : AH} {a b : Task} {v0 v1 u0 u1 : AV} {F0 F1 G0 G1 : List Nat} (r0 : SlRep h v0 a.s.attrs F0) (r1 : SlRep h v1 a.hand F1) (q0 : SlRep h u0 b.s.attrs G0) (q1 : SlRep h u1 b.hand G1) : RCalls Tryz.prog n_impl_sameTask [.agg (a.cs v0 v1), .agg (b.cs u0 u1)] h (.bool (bp (a = b))) := by
  refine reader (c_impl_sameTask _ _) (by simp only [old]) ?_
  unfold p_impl_sameTask
  (repeat' first|refine vs ?_|(refine br ?_ ?_<;>intro _<;>try(exfalso;first|omega|contradiction))|((with_reducible refine g_callf n_impl_SameSpan ?_);(refine aw_rcall_b (s_impl_SameSpan (a := a.s) (b := b.s) slr_auto slr_auto) ?_ ?_ <;> intro hn <;> first | replace hn := bp_true hn | replace hn := bp_false hn))|((with_reducible refine g_callf n_slices_EqualFunc_Item ?_);(refine aw_rcall_b (s_slices_EqualFunc_Item slr_auto slr_auto) ?_ ?_ <;> intro hn <;> first | replace hn := bp_true hn | replace hn := bp_false hn))|((with_reducible refine g_idx ?_);((first|refine ix ?_|refine ixi ?_|(refine ixg ?_;intro _ _)|(refine ixgi ?_;intro _ _));first|rintro _ _ _ _ _ ⟨rfl,rfl⟩ _|rintro _ _ _ _ _ ⟨_,rfl,_⟩ _|rintro _ _ _ _ _ ⟨_,_,_,_,rfl,rfl,_,_⟩ _|intro _ _ _ _ _ _ _))|(refine sx ?_;intro _ _)|((with_reducible refine g_awp ?_);simp only [g0,g1,g2]))
  all_goals first
    | (refine pf ?_; rintro rfl; first | contradiction | (simp_all; done))
    | (refine pt ?_; cases a; cases b; simp_all; done)
theorem s_impl_handOk {h : AH} {t : Task} {v0 v1 : AV} {F1 : List Nat} (ok : ∀ x ∈ t.hand, Cel.ok x) (hs : t.hand.length + szs t.hand ≤ 67108864) (r1 : SlRep h v1 t.hand F1) : RCalls Tryz.prog n_impl_handOk [.agg (t.cs v0 v1)] h (.bool (bp (handOk t))) := by
  refine reader (c_impl_handOk _) (by simp only [old]) ?_
  unfold p_impl_handOk
  have hsm := r1.small
  (repeat' first|refine vs ?_|(refine br ?_ ?_<;>intro _<;>try(exfalso;first|omega|contradiction))|((with_reducible refine g_idx ?_);((first|refine ix ?_|refine ixi ?_|(refine ixg ?_;intro _ _)|(refine ixgi ?_;intro _ _));first|rintro _ _ _ _ _ ⟨rfl,rfl⟩ _|rintro _ _ _ _ _ ⟨_,rfl,_⟩ _|rintro _ _ _ _ _ ⟨_,_,_,_,rfl,rfl,_,_⟩ _|intro _ _ _ _ _ _ _))|(refine sx ?_;intro _ _)|((with_reducible refine g_awp ?_);simp only [g0,g1,g2]))
  refine aw_upto t.hand.length (fun i vs h1 => vs = [.int .i64 (i : Int)] ∧ i ≤ t.hand.length ∧ Ext (h.push ⟨t.cs v0 v1, 0, 0⟩) h1 ∧ Upto t.hand (fun _ x => itemOk x ∧ x.stamp = t.stamp) i) ⟨rfl, Nat.zero_le _, ext_auto, up0⟩ ?_
  rintro i vs h1 _ ⟨rfl, hi, e1, hu⟩
  simp only [g0]
  refine br (fun hlt => ?_) (fun hge => ?_)
  · obtain ⟨x, hx, -, -⟩ := drop_step (show i < t.hand.length by omega)
    have hm := List.mem_of_getElem? hx
    have h5 := szs_mem hm
    (repeat' first|refine vs ?_|(refine br ?_ ?_<;>intro _<;>try(exfalso;first|omega|contradiction))|((with_reducible refine g_callf n_impl_ItemOk ?_);(refine aw_rcall_b (s_impl_ItemOk (ok x hm).2 (by omega) slr_auto) ?_ ?_ <;> intro hn <;> first | replace hn := bp_true hn | replace hn := bp_false hn))|((with_reducible refine g_idx ?_);((first|refine ix ?_|refine ixi ?_|(refine ixg ?_;intro _ _)|(refine ixgi ?_;intro _ _));first|rintro _ _ _ _ _ ⟨rfl,rfl⟩ _|rintro _ _ _ _ _ ⟨_,rfl,_⟩ _|rintro _ _ _ _ _ ⟨_,_,_,_,rfl,rfl,_,_⟩ _|intro _ _ _ _ _ _ _))|(refine sx ?_;intro _ _)|((with_reducible refine g_awp ?_);simp only [g0,g1,g2]))
    all_goals first
      | exact pf fun k => upNot hx (by rintro ⟨a1, a2⟩; first | contradiction | omega) k.1
      | exact ⟨by omega, rfl, by omega, ext_auto, upS hu hx ⟨hn, by omega⟩⟩
  · have e : i = t.hand.length := by omega
    rw [e] at hu
    have hu := upAll hu
    (repeat' first|refine vs ?_|(refine br ?_ ?_<;>intro _<;>try(exfalso;first|omega|contradiction))|((with_reducible refine g_idx ?_);((first|refine ix ?_|refine ixi ?_|(refine ixg ?_;intro _ _)|(refine ixgi ?_;intro _ _));first|rintro _ _ _ _ _ ⟨rfl,rfl⟩ _|rintro _ _ _ _ _ ⟨_,rfl,_⟩ _|rintro _ _ _ _ _ ⟨_,_,_,_,rfl,rfl,_,_⟩ _|intro _ _ _ _ _ _ _))|(refine sx ?_;intro _ _)|((with_reducible refine g_awp ?_);simp only [g0,g1,g2]))
    all_goals first
      | exact pt ⟨hu, by omega⟩
      | exact pf fun k => by obtain ⟨a1, a2⟩ := k; omega
theorem s_impl_TaskOk {h : AH} {t : Task} {k : Int} {v0 v1 : AV} {F0 F1 : List Nat} (ok : Cel.ok t) (hs : Sz.sz t ≤ 67108864) (r0 : SlRep h v0 t.s.attrs F0) (r1 : SlRep h v1 t.hand F1) : RCalls Tryz.prog n_impl_TaskOk [.agg (t.cs v0 v1), .int .i64 k] h (.bool (bp (taskOk t k))) := by
  obtain ⟨ok_op, ok_pc, ok_s, ok_trace, ok_stamp, ok_hand, ok_h⟩ := ok
  have hs2 : Sz.sz t = Sz.sz t.s + (t.hand.length + szs t.hand) := rfl
  refine reader (c_impl_TaskOk _ _) (by simp only [old]) ?_
  unfold p_impl_TaskOk
  (repeat' first|refine vs ?_|(refine br ?_ ?_<;>intro _<;>try(exfalso;first|omega|contradiction))|((with_reducible refine g_callf n_impl_within ?_);(refine aw_rcall_b s_impl_within ?_ ?_ <;> intro hb <;> (first | replace hb := inB_t hb | replace hb := inB_f hb) <;> try (exfalso; omega)))|((with_reducible refine g_callf n_impl_SpanOk ?_);(refine aw_rcall_b (s_impl_SpanOk ok_s (by omega) slr_auto) ?_ ?_ <;> intro hn <;> first | replace hn := bp_true hn | replace hn := bp_false hn))|((with_reducible refine g_callf n_impl_SameSpan ?_);(refine aw_rcall_b (s_impl_SameSpan (a := t.s) (b := zeroS) slr_auto slr_auto) ?_ ?_ <;> intro hn <;> first | replace hn := bp_true hn | replace hn := bp_false hn))|((with_reducible refine g_callf n_impl_sameTask ?_);(refine aw_rcall_b (s_impl_sameTask (a := t) (b := zeroK) (u0 := .nils) (u1 := .nils) slr_auto slr_auto slrep_0 slrep_0) ?_ ?_ <;> intro hn <;> first | replace hn := bp_true hn | replace hn := bp_false hn))|((with_reducible refine g_callf n_impl_handOk ?_);(refine aw_rcall_b (s_impl_handOk ok_hand (by omega) slr_auto) ?_ ?_ <;> intro hn <;> first | replace hn := bp_true hn | replace hn := bp_false hn))|((with_reducible refine g_idx ?_);((first|refine ix ?_|refine ixi ?_|(refine ixg ?_;intro _ _)|(refine ixgi ?_;intro _ _));first|rintro _ _ _ _ _ ⟨rfl,rfl⟩ _|rintro _ _ _ _ _ ⟨_,rfl,_⟩ _|rintro _ _ _ _ _ ⟨_,_,_,_,rfl,rfl,_,_⟩ _|intro _ _ _ _ _ _ _))|(refine sx ?_;intro _ _)|((with_reducible refine g_awp ?_);simp only [g0,g1,g2]))
  all_goals first
    | (refine pt ⟨by omega, by omega, by omega, ?_⟩; first | exact .inl (by assumption) | exact .inr (.inl ⟨by omega, by omega, by assumption, by omega, by omega⟩) | exact .inr (.inr ⟨by omega, by omega, by assumption, by assumption, by omega, by omega⟩))
    | (refine pf ?_; rintro ⟨a1, a2, a3, a4 | ⟨b1, b2, b3, b4, b5⟩ | ⟨b1, b2, b3, b4, b5, b6⟩⟩ <;> first | contradiction | omega | (subst a4; first | contradiction | (simp_all [zeroK]; done)))
theorem s_spec_l14NoSpan {h : AH} {s : Span} {v : AV} {F : List Nat} (r : SlRep h v s.attrs F) : RCalls Tryz.prog n_spec_l14NoSpan [.agg (s.cs v)] h (.bool (bp (s = zeroS))) := by
  refine reader (c_spec_l14NoSpan _) (by simp only [old]) ?_
  unfold p_spec_l14NoSpan
  (repeat' first|refine vs ?_|(refine br ?_ ?_<;>intro _<;>try(exfalso;first|omega|contradiction))|((with_reducible refine g_callf n_spec_SameSpan ?_);refine aw_rcall (s_spec_SameSpan (a := s) (b := zeroS) slr_auto slr_auto) ?_)|((with_reducible refine g_idx ?_);((first|refine ix ?_|refine ixi ?_|(refine ixg ?_;intro _ _)|(refine ixgi ?_;intro _ _));first|rintro _ _ _ _ _ ⟨rfl,rfl⟩ _|rintro _ _ _ _ _ ⟨_,rfl,_⟩ _|rintro _ _ _ _ _ ⟨_,_,_,_,rfl,rfl,_,_⟩ _|intro _ _ _ _ _ _ _))|(refine sx ?_;intro _ _)|((with_reducible refine g_awp ?_);simp only [g0,g1,g2]))
  exact pb rfl
theorem s_spec_TaskOk {h : AH} {t : Task} {k : Int} {v0 v1 : AV} {F0 F1 : List Nat} (ok : Cel.ok t) (hs : Sz.sz t ≤ 67108864) (r0 : SlRep h v0 t.s.attrs F0) (r1 : SlRep h v1 t.hand F1) : RCalls Tryz.prog n_spec_TaskOk [.agg (t.cs v0 v1), .int .i64 k] h (.bool (bp (taskOk t k))) := by
  obtain ⟨ok_op, ok_pc, ok_s, ok_trace, ok_stamp, ok_hand, ok_h⟩ := ok
  have hs2 : Sz.sz t = Sz.sz t.s + (t.hand.length + szs t.hand) := rfl
  have hsm := r1.small
  have nil_of : (t.hand.length : Int) = 0 → t.hand = [] := fun e => List.length_eq_zero_iff.1 (by omega)
  refine reader (c_spec_TaskOk _ _) (by simp only [old]) ?_
  unfold p_spec_TaskOk
  (repeat' first|refine vs ?_|(refine br ?_ ?_<;>intro _<;>try(exfalso;first|omega|contradiction))|((with_reducible refine g_callf n_spec_l1In ?_);(refine aw_rcall_b s_spec_l1In ?_ ?_ <;> intro hb <;> (first | replace hb := inB_t hb | replace hb := inB_f hb) <;> try (exfalso; omega)))|((with_reducible refine g_callf n_spec_SpanOk ?_);(refine aw_rcall_b (s_spec_SpanOk ok_s (by omega) slr_auto) ?_ ?_ <;> intro hn <;> first | replace hn := bp_true hn | replace hn := bp_false hn))|((with_reducible refine g_callf n_spec_l14NoSpan ?_);(refine aw_rcall_b (s_spec_l14NoSpan slr_auto) ?_ ?_ <;> intro hn <;> first | replace hn := bp_true hn | replace hn := bp_false hn))|((with_reducible refine g_idx ?_);((first|refine ix ?_|refine ixi ?_|(refine ixg ?_;intro _ _)|(refine ixgi ?_;intro _ _));first|rintro _ _ _ _ _ ⟨rfl,rfl⟩ _|rintro _ _ _ _ _ ⟨_,rfl,_⟩ _|rintro _ _ _ _ _ ⟨_,_,_,_,rfl,rfl,_,_⟩ _|intro _ _ _ _ _ _ _))|(refine sx ?_;intro _ _)|((with_reducible refine g_awp ?_);simp only [g0,g1,g2]))
  all_goals first
    | (refine pt ⟨by omega, by omega, by omega, ?_⟩; first | exact .inl (task_eq.2 ⟨by assumption, by assumption, by assumption, by assumption, by assumption, nil_of (by assumption), by assumption⟩) | exact .inr (.inl ⟨by omega, by omega, by assumption, by omega, by omega⟩))
    | (refine pf ?_; rintro ⟨a1, a2, a3, a4 | ⟨b1, b2, b3, b4, b5⟩ | ⟨b1, b2, b3, b4, b5, b6⟩⟩ <;> first | contradiction | omega | (subst a4; first | contradiction | (simp_all [zeroK]; done)))
    | skip
  refine aw_upto t.hand.length (fun i vs h1 => vs = [.int .i64 (i : Int)] ∧ i ≤ t.hand.length ∧ Ext (h.push ⟨t.cs v0 v1, 0, 0⟩) h1 ∧ Upto t.hand (fun _ x => itemOk x ∧ x.stamp = t.stamp) i) ⟨rfl, Nat.zero_le _, ext_auto, up0⟩ ?_
  rintro i vs h1 _ ⟨rfl, hi, e1, hu⟩
  simp only [g0]
  refine vs ?_
  refine br (fun hlt => ?_) (fun hge => ?_)
  · obtain ⟨x, hx, -, -⟩ := drop_step (show i < t.hand.length by omega)
    have hm := List.mem_of_getElem? hx
    have h5 := szs_mem hm
    (repeat' first|refine vs ?_|(refine br ?_ ?_<;>intro _<;>try(exfalso;first|omega|contradiction))|((with_reducible refine g_callf n_spec_ItemOk ?_);(refine aw_rcall_b (s_spec_ItemOk (ok_hand x hm).2 (by omega) slr_auto) ?_ ?_ <;> intro hn <;> first | replace hn := bp_true hn | replace hn := bp_false hn))|((with_reducible refine g_idx ?_);((first|refine ix ?_|refine ixi ?_|(refine ixg ?_;intro _ _)|(refine ixgi ?_;intro _ _));first|rintro _ _ _ _ _ ⟨rfl,rfl⟩ _|rintro _ _ _ _ _ ⟨_,rfl,_⟩ _|rintro _ _ _ _ _ ⟨_,_,_,_,rfl,rfl,_,_⟩ _|intro _ _ _ _ _ _ _))|(refine sx ?_;intro _ _)|((with_reducible refine g_awp ?_);simp only [g0,g1,g2]))
    all_goals first
      | (refine pf ?_; rintro ⟨a1, a2, a3, a4 | ⟨b1, b2, b3, b4, b5⟩ | ⟨b1, b2, b3, b4, b5, b6⟩⟩ <;> first | omega | (subst a4; simp_all [zeroK]; done) | exact upNot hx (by rintro ⟨a1, a2⟩; first | contradiction | omega) b3.1)
      | exact ⟨by omega, rfl, by omega, ext_auto, upS hu hx ⟨hn, by omega⟩⟩
  · have e : i = t.hand.length := by omega
    rw [e] at hu
    have hu := upAll hu
    (repeat' first|refine vs ?_|(refine br ?_ ?_<;>intro _<;>try(exfalso;first|omega|contradiction))|((with_reducible refine g_callf n_spec_l1In ?_);(refine aw_rcall_b s_spec_l1In ?_ ?_ <;> intro hb <;> (first | replace hb := inB_t hb | replace hb := inB_f hb) <;> try (exfalso; omega)))|((with_reducible refine g_callf n_spec_l14NoSpan ?_);(refine aw_rcall_b (s_spec_l14NoSpan slr_auto) ?_ ?_ <;> intro hn <;> first | replace hn := bp_true hn | replace hn := bp_false hn))|((with_reducible refine g_idx ?_);((first|refine ix ?_|refine ixi ?_|(refine ixg ?_;intro _ _)|(refine ixgi ?_;intro _ _));first|rintro _ _ _ _ _ ⟨rfl,rfl⟩ _|rintro _ _ _ _ _ ⟨_,rfl,_⟩ _|rintro _ _ _ _ _ ⟨_,_,_,_,rfl,rfl,_,_⟩ _|intro _ _ _ _ _ _ _))|(refine sx ?_;intro _ _)|((with_reducible refine g_awp ?_);simp only [g0,g1,g2]))
    all_goals first
      | exact pt ⟨by omega, by omega, by omega, .inr (.inr ⟨by omega, by omega, ⟨hu, by omega⟩, by assumption, by omega, by omega⟩)⟩
      | (refine pf ?_; rintro ⟨a1, a2, a3, a4 | ⟨b1, b2, b3, b4, b5⟩ | ⟨b1, b2, ⟨_, b3⟩, b4, b5, b6⟩⟩ <;> first | contradiction | omega | (subst a4; first | contradiction | (simp_all [zeroK]; done)))
end Go.Proofs.YtekfdoknfcedpaaGreat
