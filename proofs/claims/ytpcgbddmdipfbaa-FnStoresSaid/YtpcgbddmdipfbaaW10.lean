/- Copies of things, trails and stripes. -/
import Derived.Test.YtpcgbddmdipfbaaW8
import Derived.Test.YtpcgbddmdipfbaaK4
set_option linter.unusedSimpArgs false
set_option linter.unusedVariables false
set_option maxHeartbeats 1000000
namespace Go.Proofs.Ytpcgbddmdipfbaa
open Go Go.Ab
section
/- impl.copySpan -/
def p_impl_copySpan (x0 : AV) : Prog := .op (.box x0) fun v1 => .op (.alloc z6_822) fun v2 => .op (.fad 5 v1) fun v3 => .op (.ld1 v3) fun v4 => .op (.app 4 48 AV.nils v4) fun v5 => .op (.fad 5 v1) fun v6 => .op (.st 1 v6 v5) fun v7 => .op (.ldn 6 v1) fun v8 => .op (.st 6 v2 v8) fun v9 => .fin [.cn 6 v2]
theorem c_impl_copySpan (x0 : AV) : CC Try.prog n_impl_copySpan [x0] (p_impl_copySpan x0) := cc Try.func130 [] (fun _ => []) (by kernel_rfl)
/- spec.l3Copy -/
def p_spec_l3Copy (x0 : AV) : Prog := .op (.box x0) fun v1 => .op (.alloc z6_822) fun v2 => .op (.bslice 4 0 [] []) fun v3 => .op (.fad 5 v1) fun v4 => .op (.ld1 v4) fun v5 => .op (.app 4 48 v3 v5) fun v6 => .op (.fad 5 v1) fun v7 => .op (.st 1 v7 v6) fun v8 => .op (.ldn 6 v1) fun v9 => .op (.st 6 v2 v9) fun v10 => .fin [.cn 6 v2]
theorem c_spec_l3Copy (x0 : AV) : CC Try.prog n_spec_l3Copy [x0] (p_spec_l3Copy x0) := cc Try.func126 [] (fun _ => []) (by kernel_rfl)
/- impl.copySpans -/
def p_impl_copySpans (x0 : AV) : Prog := .op (.len 0 x0) fun v1 => .loop [AV.nils, AV.int .i64 0] (fun vs2 => .op (.bin 0 .lss (g vs2 1) v1) fun v4 => .ite v4 (.op (.idx 6 x0 (g vs2 1)) fun v5 => .op (.ldn 6 v5) fun v6 => .op (.alloc z6_822) fun v7 => .op (.st 6 v7 v6) fun v8 => .op (.ldn 6 v7) fun v9 => .op (.call n_impl_copySpan [v9]) fun v10 => .op (.bslice 6 1 z6_822 [(0, 6, v10)]) fun v11 => .op (.app 6 64 (g vs2 0) v11) fun v12 => .op (.bin 0 .add (g vs2 1) (AV.int .i64 1)) fun v13 => .leaf 0 [v12, v13]) (.leaf 2 [g vs2 0, g vs2 1])) fun t3 vs2 => tsel t3 1 (.leaf 1 vs2) (tsel t3 2 (.fin [.val (g vs2 0)]) .bad)
theorem c_impl_copySpans (x0 : AV) : CC Try.prog n_impl_copySpans [x0] (p_impl_copySpans x0) := cc Try.func213 [3, 6, 7, 8] (fun _ => []) (by kernel_rfl)
/- spec.l3All -/
def p_spec_l3All (x0 : AV) : Prog := .op (.bslice 6 0 [] []) fun v1 => .loop [v1, AV.int .i64 0] (fun vs2 => .op (.len 0 x0) fun v4 => .op (.bin 0 .lss (g vs2 1) v4) fun v5 => .ite v5 (.op (.idx 6 x0 (g vs2 1)) fun v6 => .op (.ldn 6 v6) fun v7 => .op (.call n_spec_l3Copy [v7]) fun v8 => .op (.alloc z6_822) fun v9 => .op (.st 6 v9 v8) fun v10 => .op (.ldn 6 v9) fun v11 => .op (.bslice 6 1 z6_822 [(0, 6, v11)]) fun v12 => .op (.app 6 64 (g vs2 0) v12) fun v13 => .op (.bin 0 .add (g vs2 1) (AV.int .i64 1)) fun v14 => .leaf 0 [v13, v14]) (.leaf 2 [g vs2 0, g vs2 1])) fun t3 vs2 => tsel t3 1 (.leaf 1 vs2) (tsel t3 2 (.fin [.val (g vs2 0)]) .bad)
theorem c_spec_l3All (x0 : AV) : CC Try.prog n_spec_l3All [x0] (p_spec_l3All x0) := cc Try.func195 [0, 3, 4] (fun _ => []) (by kernel_rfl)
/- impl.copyTrail -/
def p_impl_copyTrail (x0 : AV) : Prog := .op (.box x0) fun v1 => .op (.alloc [AV.int .i64 0, AV.int .i64 0, AV.int .i64 0, AV.nils]) fun v2 => .op (.fad 3 v1) fun v3 => .op (.ld1 v3) fun v4 => .op (.call n_impl_copySpans [v4]) fun v5 => .op (.fad 3 v1) fun v6 => .op (.st 1 v6 v5) fun v7 => .op (.ldn 4 v1) fun v8 => .op (.st 4 v2 v8) fun v9 => .fin [.cn 4 v2]
theorem c_impl_copyTrail (x0 : AV) : CC Try.prog n_impl_copyTrail [x0] (p_impl_copyTrail x0) := cc Try.func179 [] (fun _ => []) (by kernel_rfl)
/- spec.l10Copy -/
def p_spec_l10Copy (x0 : AV) : Prog := .op (.box x0) fun v1 => .op (.alloc [AV.int .i64 0, AV.int .i64 0, AV.int .i64 0, AV.nils]) fun v2 => .op (.fad 3 v1) fun v3 => .op (.ld1 v3) fun v4 => .op (.call n_spec_l3All [v4]) fun v5 => .op (.fad 3 v1) fun v6 => .op (.st 1 v6 v5) fun v7 => .op (.ldn 4 v1) fun v8 => .op (.st 4 v2 v8) fun v9 => .fin [.cn 4 v2]
theorem c_spec_l10Copy (x0 : AV) : CC Try.prog n_spec_l10Copy [x0] (p_spec_l10Copy x0) := cc Try.func139 [] (fun _ => []) (by kernel_rfl)
/- impl.copyTrails -/
def p_impl_copyTrails (x0 : AV) : Prog := .op (.len 0 x0) fun v1 => .loop [AV.nils, AV.int .i64 0] (fun vs2 => .op (.bin 0 .lss (g vs2 1) v1) fun v4 => .ite v4 (.op (.idx 4 x0 (g vs2 1)) fun v5 => .op (.ldn 4 v5) fun v6 => .op (.alloc [AV.int .i64 0, AV.int .i64 0, AV.int .i64 0, AV.nils]) fun v7 => .op (.st 4 v7 v6) fun v8 => .op (.ldn 4 v7) fun v9 => .op (.call n_impl_copyTrail [v9]) fun v10 => .op (.bslice 4 1 [AV.int .i64 0, AV.int .i64 0, AV.int .i64 0, AV.nils] [(0, 4, v10)]) fun v11 => .op (.app 4 48 (g vs2 0) v11) fun v12 => .op (.bin 0 .add (g vs2 1) (AV.int .i64 1)) fun v13 => .leaf 0 [v12, v13]) (.leaf 2 [g vs2 0, g vs2 1])) fun t3 vs2 => tsel t3 1 (.leaf 1 vs2) (tsel t3 2 (.fin [.val (g vs2 0)]) .bad)
theorem c_impl_copyTrails (x0 : AV) : CC Try.prog n_impl_copyTrails [x0] (p_impl_copyTrails x0) := cc Try.func129 [3, 6, 7, 8] (fun _ => []) (by kernel_rfl)
/- spec.l10All -/
def p_spec_l10All (x0 : AV) : Prog := .op (.bslice 4 0 [] []) fun v1 => .loop [v1, AV.int .i64 0] (fun vs2 => .op (.len 0 x0) fun v4 => .op (.bin 0 .lss (g vs2 1) v4) fun v5 => .ite v5 (.op (.idx 4 x0 (g vs2 1)) fun v6 => .op (.ldn 4 v6) fun v7 => .op (.call n_spec_l10Copy [v7]) fun v8 => .op (.alloc [AV.int .i64 0, AV.int .i64 0, AV.int .i64 0, AV.nils]) fun v9 => .op (.st 4 v9 v8) fun v10 => .op (.ldn 4 v9) fun v11 => .op (.bslice 4 1 [AV.int .i64 0, AV.int .i64 0, AV.int .i64 0, AV.nils] [(0, 4, v11)]) fun v12 => .op (.app 4 48 (g vs2 0) v12) fun v13 => .op (.bin 0 .add (g vs2 1) (AV.int .i64 1)) fun v14 => .leaf 0 [v13, v14]) (.leaf 2 [g vs2 0, g vs2 1])) fun t3 vs2 => tsel t3 1 (.leaf 1 vs2) (tsel t3 2 (.fin [.val (g vs2 0)]) .bad)
theorem c_spec_l10All (x0 : AV) : CC Try.prog n_spec_l10All [x0] (p_spec_l10All x0) := cc Try.func125 [0, 3, 4] (fun _ => []) (by kernel_rfl)
/- impl.copyStripes -/
def p_impl_copyStripes (x0 : AV) : Prog := .op (.len 0 x0) fun v1 => .loop [AV.nils, AV.int .i64 0] (fun vs2 => .op (.bin 0 .lss (g vs2 1) v1) fun v4 => .ite v4 (.op (.idx 2 x0 (g vs2 1)) fun v5 => .op (.ldn 2 v5) fun v6 => .op (.alloc [AV.int .i64 0, AV.nils]) fun v7 => .op (.st 2 v7 v6) fun v8 => .op (.fad 0 v7) fun v9 => .op (.ld1 v9) fun v10 => .op (.fad 1 v7) fun v11 => .op (.ld1 v11) fun v12 => .op (.call n_impl_copyTrails [v12]) fun v13 => .chk (.ld1 v9) v10 (.op (.build [AV.int .i64 0, AV.nils] [(0, 1, v10), (1, 1, v13)]) fun v14 => .op (.bslice 2 1 [AV.int .i64 0, AV.nils] [(0, 2, v14)]) fun v15 => .op (.app 2 32 (g vs2 0) v15) fun v16 => .op (.bin 0 .add (g vs2 1) (AV.int .i64 1)) fun v17 => .leaf 0 [v16, v17])) (.leaf 2 [g vs2 0, g vs2 1])) fun t3 vs2 => tsel t3 1 (.leaf 1 vs2) (tsel t3 2 (.fin [.val (g vs2 0)]) .bad)
theorem c_impl_copyStripes (x0 : AV) : CC Try.prog n_impl_copyStripes [x0] (p_impl_copyStripes x0) := cc Try.func177 [3, 6, 7, 8] (fun r => if r = 5 then [(0, []), (1, []), (2, []), (3, []), (4, []), (5, [2]), (6, []), (7, []), (8, []), (9, [])] else []) (by kernel_rfl)
/- spec.l11Copy -/
def p_spec_l11Copy (x0 : AV) : Prog := .op (.bslice 2 0 [] []) fun v1 => .loop [v1, AV.int .i64 0] (fun vs2 => .op (.len 0 x0) fun v4 => .op (.bin 0 .lss (g vs2 1) v4) fun v5 => .ite v5 (.op (.idx 2 x0 (g vs2 1)) fun v6 => .op (.fad 0 v6) fun v7 => .op (.ld1 v7) fun v8 => .op (.idx 2 x0 (g vs2 1)) fun v9 => .op (.fad 1 v9) fun v10 => .op (.ld1 v10) fun v11 => .op (.call n_spec_l10All [v11]) fun v12 => .chk (.ld1 v7) v8 (.op (.build [AV.int .i64 0, AV.nils] [(0, 1, v8), (1, 1, v12)]) fun v13 => .op (.bslice 2 1 [AV.int .i64 0, AV.nils] [(0, 2, v13)]) fun v14 => .op (.app 2 32 (g vs2 0) v14) fun v15 => .op (.bin 0 .add (g vs2 1) (AV.int .i64 1)) fun v16 => .leaf 0 [v15, v16])) (.leaf 2 [g vs2 0, g vs2 1])) fun t3 vs2 => tsel t3 1 (.leaf 1 vs2) (tsel t3 2 (.fin [.val (g vs2 0)]) .bad)
theorem c_spec_l11Copy (x0 : AV) : CC Try.prog n_spec_l11Copy [x0] (p_spec_l11Copy x0) := cc Try.func182 [0, 3, 4] (fun r => if r = 5 then [(0, []), (1, []), (2, []), (3, []), (4, []), (5, []), (6, []), (7, []), (8, []), (9, []), (10, []), (11, [5]), (12, []), (13, []), (14, []), (15, [])] else []) (by kernel_rfl)
end
theorem s_impl_copySpan (x : Span) (hs : Sz.sz x ≤ 67108864) : CopyX Span Try.prog n_impl_copySpan x := by
  rintro cs F h ⟨v0, rfl, r0⟩
  have hs : (x.attrs.length + szs x.attrs) ≤ 67108864 := hs
  refine c_impl_copySpan _ ?_
  unfold p_impl_copySpan
  (repeat' first|refine vs ?_|(refine br ?_ ?_<;>intro _<;>try(exfalso;first|omega|contradiction))|((with_reducible refine g_idx ?_);((first|refine ix ?_|refine ixi ?_|(refine ixg ?_;intro _ _)|(refine ixgi ?_;intro _ _));first|rintro _ _ _ _ _ ⟨rfl,rfl⟩ _|rintro _ _ _ _ _ ⟨_,rfl,_⟩ _|rintro _ _ _ _ _ ⟨_,_,_,_,rfl,rfl,_,_⟩ _|intro _ _ _ _ _ _ _))|(refine sx ?_;intro _ _)|((with_reducible refine g_awp ?_);simp only [g0,g1,g2]))
  refine app0 (n := h.n + 2) (ys := x.attrs) (Fy := F) slr_auto (tail_own (α := Attr) r0 _) om_auto rfl (by omega) ?_
  intro u h' F' e r' o'
  have n1 := e.1
  simp only [push_n] at n1
  (repeat' first|refine vs ?_|(refine br ?_ ?_<;>intro _<;>try(exfalso;first|omega|contradiction))|((with_reducible refine g_idx ?_);((first|refine ix ?_|refine ixi ?_|(refine ixg ?_;intro _ _)|(refine ixgi ?_;intro _ _));first|rintro _ _ _ _ _ ⟨rfl,rfl⟩ _|rintro _ _ _ _ _ ⟨_,rfl,_⟩ _|rintro _ _ _ _ _ ⟨_,_,_,_,rfl,rfl,_,_⟩ _|intro _ _ _ _ _ _ _))|(refine sx ?_;intro _ _)|((with_reducible refine g_awp ?_);simp only [g0,g1,g2]))
  exact ⟨rfl, _, rfl, ext_auto, _, _, rfl, ⟨_, rfl, slr_auto⟩, ol_auto⟩
theorem s_spec_l3Copy (x : Span) (hs : Sz.sz x ≤ 67108864) : CopyX Span Try.prog n_spec_l3Copy x := by
  rintro cs F h ⟨v0, rfl, r0⟩
  have hs : (x.attrs.length + szs x.attrs) ≤ 67108864 := hs
  refine c_spec_l3Copy _ ?_
  unfold p_spec_l3Copy
  (repeat' first|refine vs ?_|(refine br ?_ ?_<;>intro _<;>try(exfalso;first|omega|contradiction))|((with_reducible refine g_idx ?_);((first|refine ix ?_|refine ixi ?_|(refine ixg ?_;intro _ _)|(refine ixgi ?_;intro _ _));first|rintro _ _ _ _ _ ⟨rfl,rfl⟩ _|rintro _ _ _ _ _ ⟨_,rfl,_⟩ _|rintro _ _ _ _ _ ⟨_,_,_,_,rfl,rfl,_,_⟩ _|intro _ _ _ _ _ _ _))|(refine sx ?_;intro _ _)|((with_reducible refine g_awp ?_);simp only [g0,g1,g2]))
  refine appE (n := h.n + 2) (ys := x.attrs) (Fy := F) slr_auto (tail_own (α := Attr) r0 _) om_auto rfl (by omega) ?_
  intro u h' F' e r' o'
  have n1 := e.1
  simp only [push_n] at n1
  (repeat' first|refine vs ?_|(refine br ?_ ?_<;>intro _<;>try(exfalso;first|omega|contradiction))|((with_reducible refine g_idx ?_);((first|refine ix ?_|refine ixi ?_|(refine ixg ?_;intro _ _)|(refine ixgi ?_;intro _ _));first|rintro _ _ _ _ _ ⟨rfl,rfl⟩ _|rintro _ _ _ _ _ ⟨_,rfl,_⟩ _|rintro _ _ _ _ _ ⟨_,_,_,_,rfl,rfl,_,_⟩ _|intro _ _ _ _ _ _ _))|(refine sx ?_;intro _ _)|((with_reducible refine g_awp ?_);simp only [g0,g1,g2]))
  exact ⟨rfl, _, rfl, ext_auto, _, _, rfl, ⟨_, rfl, slr_auto⟩, ol_auto⟩
theorem s_impl_copySpans (xs : List Span) (hs : xs.length + szs xs ≤ 67108864) : CopyL Try.prog n_impl_copySpans xs := fun v F h r =>
  c_impl_copySpans _ (mapI_spec rfl rfl (by decide) (fun x hx => s_impl_copySpan x (by have := szs_mem hx; omega)) r (by omega))
theorem s_spec_l3All (xs : List Span) (hs : xs.length + szs xs ≤ 67108864) : CopyL Try.prog n_spec_l3All xs := fun v F h r =>
  c_spec_l3All _ (mapS_spec rfl rfl (by decide) (fun x hx => s_spec_l3Copy x (by have := szs_mem hx; omega)) r (by omega))
theorem s_impl_copyTrail (x : Trail) (hs : Sz.sz x ≤ 67108864) : CopyX Trail Try.prog n_impl_copyTrail x := by
  rintro cs F h ⟨v0, rfl, r0⟩
  have hs : (x.spans.length + szs x.spans) ≤ 67108864 := hs
  refine c_impl_copyTrail _ ?_
  unfold p_impl_copyTrail
  (repeat' first|refine vs ?_|(refine br ?_ ?_<;>intro _<;>try(exfalso;first|omega|contradiction))|((with_reducible refine g_callf n_impl_copySpans ?_);(refine aw_call (s_impl_copySpans _ hs _ _ _ slr_auto) ?_; rintro _ _ ⟨e_, _, _, _⟩; have n_ := e_.1; (try simp only [push_n, upd_n] at n_)))|((with_reducible refine g_idx ?_);((first|refine ix ?_|refine ixi ?_|(refine ixg ?_;intro _ _)|(refine ixgi ?_;intro _ _));first|rintro _ _ _ _ _ ⟨rfl,rfl⟩ _|rintro _ _ _ _ _ ⟨_,rfl,_⟩ _|rintro _ _ _ _ _ ⟨_,_,_,_,rfl,rfl,_,_⟩ _|intro _ _ _ _ _ _ _))|(refine sx ?_;intro _ _)|((with_reducible refine g_awp ?_);simp only [g0,g1,g2]))
  exact ⟨rfl, _, rfl, ext_auto, _, _, rfl, ⟨_, rfl, slr_auto⟩, ol_auto⟩
theorem s_spec_l10Copy (x : Trail) (hs : Sz.sz x ≤ 67108864) : CopyX Trail Try.prog n_spec_l10Copy x := by
  rintro cs F h ⟨v0, rfl, r0⟩
  have hs : (x.spans.length + szs x.spans) ≤ 67108864 := hs
  refine c_spec_l10Copy _ ?_
  unfold p_spec_l10Copy
  (repeat' first|refine vs ?_|(refine br ?_ ?_<;>intro _<;>try(exfalso;first|omega|contradiction))|((with_reducible refine g_callf n_spec_l3All ?_);(refine aw_call (s_spec_l3All _ hs _ _ _ slr_auto) ?_; rintro _ _ ⟨e_, _, _, _⟩; have n_ := e_.1; (try simp only [push_n, upd_n] at n_)))|((with_reducible refine g_idx ?_);((first|refine ix ?_|refine ixi ?_|(refine ixg ?_;intro _ _)|(refine ixgi ?_;intro _ _));first|rintro _ _ _ _ _ ⟨rfl,rfl⟩ _|rintro _ _ _ _ _ ⟨_,rfl,_⟩ _|rintro _ _ _ _ _ ⟨_,_,_,_,rfl,rfl,_,_⟩ _|intro _ _ _ _ _ _ _))|(refine sx ?_;intro _ _)|((with_reducible refine g_awp ?_);simp only [g0,g1,g2]))
  exact ⟨rfl, _, rfl, ext_auto, _, _, rfl, ⟨_, rfl, slr_auto⟩, ol_auto⟩
theorem s_impl_copyTrails (xs : List Trail) (hs : xs.length + szs xs ≤ 67108864) : CopyL Try.prog n_impl_copyTrails xs := fun v F h r =>
  c_impl_copyTrails _ (mapI_spec rfl rfl (by decide) (fun x hx => s_impl_copyTrail x (by have := szs_mem hx; omega)) r (by omega))
theorem s_spec_l10All (xs : List Trail) (hs : xs.length + szs xs ≤ 67108864) : CopyL Try.prog n_spec_l10All xs := fun v F h r =>
  c_spec_l10All _ (mapS_spec rfl rfl (by decide) (fun x hx => s_spec_l10Copy x (by have := szs_mem hx; omega)) r (by omega))

theorem s_impl_copyStripes (xs : List Stripe) (hs : xs.length + szs xs ≤ 67108864) : CopyL Try.prog n_impl_copyStripes xs := by
  intro v F h r
  refine c_impl_copyStripes _ ?_
  unfold p_impl_copyStripes
  have hsm := r.small
  refine aw_len r ?_
  refine aw_upto xs.length (fun i vs h1 => ∃ u G, vs = [u, .int .i64 (i : Int)] ∧ i ≤ xs.length ∧ Ext h h1 ∧ SlRep h1 u (xs.take i) G ∧ Own h.n h1 G) ⟨.nils, [], rfl, Nat.zero_le _, Ext.refl _, SlRep.nils, Own.nil⟩ ?_
  rintro i vs h1 _ ⟨u, G, rfl, hi, e1, ru, ou⟩
  have n1 := e1.1
  simp only [g0, g1]
  refine br (fun hlt => ?_) (fun hge => ?_)
  · obtain ⟨x, hx, -, htk⟩ := drop_step (show i < xs.length by omega)
    have hm := szs_mem (List.mem_of_getElem? hx)
    have hx2 : Sz.sz x = x.l.length + szs x.l := rfl
    refine vs ?_
    refine aw_idx r hx rfl ?_
    rintro b o _ Fi a ⟨v0, rfl, r0⟩ _
    (repeat' first|refine vs ?_|(refine br ?_ ?_<;>intro _<;>try(exfalso;first|omega|contradiction))|((with_reducible refine g_callf n_impl_copyTrails ?_);(refine aw_call (s_impl_copyTrails x.l (by omega) _ _ _ slr_auto) ?_; rintro w2 h2 ⟨e2, G2, q2, o2⟩; have n2 := e2.1; (try simp only [push_n, upd_n] at n2)))|((with_reducible refine g_idx ?_);((first|refine ix ?_|refine ixi ?_|(refine ixg ?_;intro _ _)|(refine ixgi ?_;intro _ _));first|rintro _ _ _ _ _ ⟨rfl,rfl⟩ _|rintro _ _ _ _ _ ⟨_,rfl,_⟩ _|rintro _ _ _ _ _ ⟨_,_,_,_,rfl,rfl,_,_⟩ _|intro _ _ _ _ _ _ _))|(refine sx ?_;intro _ _)|((with_reducible refine g_awp ?_);simp only [g0,g1,g2]))
    have hlen : (xs.take i).length = i := by rw [List.length_take]; omega
    refine app1 (n := h.n) (xs := xs.take i) (Fx := G) (a := x) slr_auto ⟨_, rfl, q2⟩ (own_app (ol_auto) o2 (by simp only [push_n]; omega) dis_auto) om_auto rfl ?_ ?_ ?_
    · rw [hlen]; omega
    · rw [hlen]; omega
    intro u' h' F' ek kp r' o'
    (repeat' first|refine vs ?_|(refine br ?_ ?_<;>intro _<;>try(exfalso;first|omega|contradiction))|((with_reducible refine g_idx ?_);((first|refine ix ?_|refine ixi ?_|(refine ixg ?_;intro _ _)|(refine ixgi ?_;intro _ _));first|rintro _ _ _ _ _ ⟨rfl,rfl⟩ _|rintro _ _ _ _ _ ⟨_,rfl,_⟩ _|rintro _ _ _ _ _ ⟨_,_,_,_,rfl,rfl,_,_⟩ _|intro _ _ _ _ _ _ _))|(refine sx ?_;intro _ _)|((with_reducible refine g_awp ?_);simp only [g0,g1,g2]))
    exact ⟨by omega, u', F', rfl, by omega, ek h ext_auto (Nat.le_refl _), by rw [htk]; exact r', o'⟩
  · (repeat' first|refine vs ?_|(refine br ?_ ?_<;>intro _<;>try(exfalso;first|omega|contradiction))|((with_reducible refine g_idx ?_);((first|refine ix ?_|refine ixi ?_|(refine ixg ?_;intro _ _)|(refine ixgi ?_;intro _ _));first|rintro _ _ _ _ _ ⟨rfl,rfl⟩ _|rintro _ _ _ _ _ ⟨_,rfl,_⟩ _|rintro _ _ _ _ _ ⟨_,_,_,_,rfl,rfl,_,_⟩ _|intro _ _ _ _ _ _ _))|(refine sx ?_;intro _ _)|((with_reducible refine g_awp ?_);simp only [g0,g1,g2]))
    exact ⟨rfl, u, rfl, e1, G, by rw [show i = xs.length by omega, List.take_length] at ru; exact ru, ou⟩
theorem s_spec_l11Copy (xs : List Stripe) (hs : xs.length + szs xs ≤ 67108864) : CopyL Try.prog n_spec_l11Copy xs := by
  intro v F h r
  refine c_spec_l11Copy _ ?_
  unfold p_spec_l11Copy
  have hsm := r.small
  obtain ⟨re, oe⟩ := empty_own (h := h) (α := Stripe) (w := 2) rfl
  refine vs ?_
  refine aw_upto xs.length (fun i vs h1 => ∃ u G, vs = [u, .int .i64 (i : Int)] ∧ i ≤ xs.length ∧ Ext h h1 ∧ SlRep h1 u (xs.take i) G ∧ Own h.n h1 G) ⟨_, _, rfl, Nat.zero_le _, (Ext.refl _).push _, by rw [List.take_zero]; exact re, oe _ (Nat.le_refl _)⟩ ?_
  rintro i vs h1 _ ⟨u, G, rfl, hi, e1, ru, ou⟩
  have n1 := e1.1
  simp only [g0, g1]
  refine aw_len r ?_
  refine br (fun hlt => ?_) (fun hge => ?_)
  · obtain ⟨x, hx, -, htk⟩ := drop_step (show i < xs.length by omega)
    have hm := szs_mem (List.mem_of_getElem? hx)
    have hx2 : Sz.sz x = x.l.length + szs x.l := rfl
    (repeat' first|refine vs ?_|(refine br ?_ ?_<;>intro _<;>try(exfalso;first|omega|contradiction))|((with_reducible refine g_callf n_spec_l10All ?_);(refine aw_call (s_spec_l10All x.l (by omega) _ _ _ slr_auto) ?_; rintro w2 h2 ⟨e2, G2, q2, o2⟩; have n2 := e2.1; (try simp only [push_n, upd_n] at n2)))|((with_reducible refine g_idx ?_);((first|refine ix ?_|refine ixi ?_|(refine ixg ?_;intro _ _)|(refine ixgi ?_;intro _ _));first|rintro _ _ _ _ _ ⟨rfl,rfl⟩ _|rintro _ _ _ _ _ ⟨_,rfl,_⟩ _|rintro _ _ _ _ _ ⟨_,_,_,_,rfl,rfl,_,_⟩ _|intro _ _ _ _ _ _ _))|(refine sx ?_;intro _ _)|((with_reducible refine g_awp ?_);simp only [g0,g1,g2]))
    have hlen : (xs.take i).length = i := by rw [List.length_take]; omega
    refine app1 (n := h.n) (xs := xs.take i) (Fx := G) (a := x) slr_auto ⟨_, rfl, q2⟩ (own_app (ol_auto) o2 (by omega) dis_auto) om_auto rfl ?_ ?_ ?_
    · rw [hlen]; omega
    · rw [hlen]; omega
    intro u' h' F' ek kp r' o'
    (repeat' first|refine vs ?_|(refine br ?_ ?_<;>intro _<;>try(exfalso;first|omega|contradiction))|((with_reducible refine g_idx ?_);((first|refine ix ?_|refine ixi ?_|(refine ixg ?_;intro _ _)|(refine ixgi ?_;intro _ _));first|rintro _ _ _ _ _ ⟨rfl,rfl⟩ _|rintro _ _ _ _ _ ⟨_,rfl,_⟩ _|rintro _ _ _ _ _ ⟨_,_,_,_,rfl,rfl,_,_⟩ _|intro _ _ _ _ _ _ _))|(refine sx ?_;intro _ _)|((with_reducible refine g_awp ?_);simp only [g0,g1,g2]))
    exact ⟨by omega, u', F', rfl, by omega, ek h ext_auto (Nat.le_refl _), by rw [htk]; exact r', o'⟩
  · (repeat' first|refine vs ?_|(refine br ?_ ?_<;>intro _<;>try(exfalso;first|omega|contradiction))|((with_reducible refine g_idx ?_);((first|refine ix ?_|refine ixi ?_|(refine ixg ?_;intro _ _)|(refine ixgi ?_;intro _ _));first|rintro _ _ _ _ _ ⟨rfl,rfl⟩ _|rintro _ _ _ _ _ ⟨_,rfl,_⟩ _|rintro _ _ _ _ _ ⟨_,_,_,_,rfl,rfl,_,_⟩ _|intro _ _ _ _ _ _ _))|(refine sx ?_;intro _ _)|((with_reducible refine g_awp ?_);simp only [g0,g1,g2]))
    exact ⟨rfl, u, rfl, e1, G, by rw [show i = xs.length by omega, List.take_length] at ru; exact ru, ou⟩
end Go.Proofs.Ytpcgbddmdipfbaa
