
/- Copies of rules and set-ups. -/
import Derived.Test.YtideefohbkhhhaaLPol
import Derived.Test.YtideefohbkhhhaaAb46
set_option linter.unusedSimpArgs false
set_option linter.unusedVariables false
set_option maxHeartbeats 2000000
namespace Go.Proofs.Ytideefohbkhhhaa
open Go Go.Ab
section
/- impl.copyPol -/
def p_impl_copyPol (x0 : AV) : Prog := .op (.box x0) fun v1 => .op (.alloc z5_5ed) fun v2 => .op (.ldn 5 v1) fun v3 => .op (.alloc z5_5ed) fun v4 => .op (.st 5 v4 v3) fun v5 => .op (.fad 4 v4) fun v6 => .op (.st 1 v6 AV.nils) fun v7 => .op (.fad 4 v1) fun v8 => .op (.ld1 v8) fun v9 => .op (.len 0 v9) fun v10 => .loop [AV.int .i64 0] (fun vs11 => .op (.bin 0 .lss (g vs11 0) v10) fun v13 => .ite v13 (.op (.idx 5 v9 (g vs11 0)) fun v14 => .op (.ldn 5 v14) fun v15 => .op (.alloc z5_5ed) fun v16 => .op (.st 5 v16 v15) fun v17 => .op (.fad 4 v4) fun v18 => .op (.ld1 v18) fun v19 => .op (.ldn 5 v16) fun v20 => .op (.call n_impl_copyPol [v20]) fun v21 => .chk (.ld1 v18) v19 (.op (.bslice 5 1 z5_5ed [(0, 5, v21)]) fun v22 => .op (.app 5 72 v19 v22) fun v23 => .op (.fad 4 v4) fun v24 => .op (.st 1 v24 v23) fun v25 => .op (.bin 0 .add (g vs11 0) (AV.int .i64 1)) fun v26 => .leaf 0 [v26])) (.leaf 2 [g vs11 0])) fun t12 vs11 => tsel t12 1 (.leaf 1 vs11) (tsel t12 2 (.op (.ldn 5 v4) fun v27 => .op (.st 5 v2 v27) fun v28 => .fin [.cn 5 v2]) .bad)
theorem c_impl_copyPol (x0 : AV) : CC Try.prog n_impl_copyPol [x0] (p_impl_copyPol x0) := cc Try.func97 [2, 3, 9, 10, 11] (fun r => if r = 6 then [(0, []), (1, []), (2, []), (3, [1]), (4, []), (5, []), (6, []), (7, [])] else []) (by kernel_rfl)
/- spec.l5Copy -/
def p_spec_l5Copy (x0 : AV) : Prog := .op (.box x0) fun v1 => .op (.alloc z5_5ed) fun v2 => .op (.ldn 5 v1) fun v3 => .op (.alloc z5_5ed) fun v4 => .op (.st 5 v4 v3) fun v5 => .op (.bslice 5 0 [] []) fun v6 => .op (.fad 4 v4) fun v7 => .op (.st 1 v7 v6) fun v8 => .loop [AV.int .i64 0] (fun vs9 => .op (.fad 4 v1) fun v11 => .op (.ld1 v11) fun v12 => .op (.len 0 v12) fun v13 => .op (.bin 0 .lss (g vs9 0) v13) fun v14 => .ite v14 (.op (.fad 4 v1) fun v15 => .op (.ld1 v15) fun v16 => .op (.idx 5 v16 (g vs9 0)) fun v17 => .op (.ldn 5 v17) fun v18 => .op (.call n_spec_l5Copy [v18]) fun v19 => .op (.alloc z5_5ed) fun v20 => .op (.st 5 v20 v19) fun v21 => .op (.fad 4 v4) fun v22 => .op (.ld1 v22) fun v23 => .op (.ldn 5 v20) fun v24 => .op (.bslice 5 1 z5_5ed [(0, 5, v24)]) fun v25 => .op (.app 5 72 v23 v25) fun v26 => .op (.fad 4 v4) fun v27 => .op (.st 1 v27 v26) fun v28 => .op (.bin 0 .add (g vs9 0) (AV.int .i64 1)) fun v29 => .leaf 0 [v29]) (.leaf 2 [g vs9 0])) fun t10 vs9 => tsel t10 1 (.leaf 1 vs9) (tsel t10 2 (.op (.ldn 5 v4) fun v30 => .op (.st 5 v2 v30) fun v31 => .fin [.cn 5 v2]) .bad)
theorem c_spec_l5Copy (x0 : AV) : CC Try.prog n_spec_l5Copy [x0] (p_spec_l5Copy x0) := cc Try.func93 [1, 2, 3, 4] (fun _ => []) (by kernel_rfl)
/- impl.copyConf -/
def p_impl_copyConf (x0 : AV) : Prog := .op (.box x0) fun v1 => .op (.alloc z12_a94) fun v2 => .op (.fad 7 v1) fun v3 => .op (.ldn 5 v3) fun v4 => .op (.call n_impl_copyPol [v4]) fun v5 => .op (.fad 7 v1) fun v6 => .op (.st 5 v6 v5) fun v7 => .op (.ldn 12 v1) fun v8 => .op (.st 12 v2 v8) fun v9 => .fin [.cn 12 v2]
theorem c_impl_copyConf (x0 : AV) : CC Try.prog n_impl_copyConf [x0] (p_impl_copyConf x0) := cc Try.func51 [] (fun _ => []) (by kernel_rfl)
/- spec.l13Copy -/
def p_spec_l13Copy (x0 : AV) : Prog := .op (.box x0) fun v1 => .op (.alloc z12_a94) fun v2 => .op (.ldn 12 v1) fun v3 => .op (.alloc z12_a94) fun v4 => .op (.st 12 v4 v3) fun v5 => .op (.fad 7 v1) fun v6 => .op (.ldn 5 v6) fun v7 => .op (.call n_spec_l5Copy [v7]) fun v8 => .op (.alloc z5_5ed) fun v9 => .op (.st 5 v9 v8) fun v10 => .op (.ldn 5 v9) fun v11 => .op (.fad 7 v4) fun v12 => .op (.st 5 v12 v11) fun v13 => .op (.ldn 12 v4) fun v14 => .op (.st 12 v2 v14) fun v15 => .fin [.cn 12 v2]
theorem c_spec_l13Copy (x0 : AV) : CC Try.prog n_spec_l13Copy [x0] (p_spec_l13Copy x0) := cc Try.func46 [] (fun _ => []) (by kernel_rfl)
end
theorem s_impl_copyPol (x : Pol) : Sz.sz x ≤ 67108864 → CopyX Pol Try.prog n_impl_copyPol x := by
  refine pol_ind (p := fun x => Sz.sz x ≤ 67108864 → CopyX Pol Try.prog n_impl_copyPol x) ?_ x
  intro x ih hs cs F h r
  rw [Pol.sz_eq] at hs
  rw [Pol.rep_iff] at r
  obtain ⟨v0, rfl, r0⟩ := r
  have hsm := r0.small
  refine c_impl_copyPol _ ?_
  unfold p_impl_copyPol
  (repeat' first|refine vs ?_|(refine br ?_ ?_<;>intro _<;>try(exfalso;first|omega|contradiction))|((with_reducible refine g_idx ?_);((first|refine ix ?_|refine ixi ?_|(refine ixg ?_;intro _ _)|(refine ixgi ?_;intro _ _));first|rintro _ _ _ _ _ ⟨rfl,rfl⟩ _|rintro _ _ _ _ _ ⟨_,rfl,_⟩ _|rintro _ _ _ _ _ ⟨_,_,_,_,rfl,rfl,_,_⟩ _|intro _ _ _ _ _ _ _))|(refine sx ?_;intro _ _)|((with_reducible refine g_awp ?_);simp only [g0,g1,g2]))
  refine aw_upto x.l.length (fun i vs h1 => ∃ u G, vs = [.int .i64 (i : Int)] ∧ i ≤ x.l.length ∧ Bk h1 (h.n + 1 + 1) [.int .i64 x.kind, .int .i64 x.n, .str x.key, .str x.text, u] 0 ∧ Bk h1 (h.n + 1) [AV.int .i64 0, AV.int .i64 0, AV.str ⟨#[]⟩, AV.str ⟨#[]⟩, AV.nils] 0 ∧ Ext h h1 ∧ h.n + 1 + 1 + 1 ≤ h1.n ∧ SlRep h1 u (x.l.take i) G ∧ Own (h.n + 1 + 1 + 1) h1 G) ?_ ?_
  · exact ⟨.nils, [], rfl, Nat.zero_le _, bk_auto, bk_auto, ext_auto, by simp only [push_n, upd_n]; omega, SlRep.nils, Own.nil⟩
  rintro i vs h1 _ ⟨u, G, rfl, hi, b2, b1, e1, m1, ru, ou⟩
  simp only [g0, g1]
  refine br (fun hlt => ?_) (fun hge => ?_)
  · obtain ⟨y, hy, -, htk⟩ := drop_step (show i < x.l.length by omega)
    have hm := szs_mem (List.mem_of_getElem? hy)
    have c := ih y (List.mem_of_getElem? hy) (by omega)
    refine vs ?_
    refine aw_idx r0 hy rfl ?_
    rintro b o cy Fi a ry _
    rw [Pol.rep_iff] at ry
    obtain ⟨vy, rfl, ry⟩ := ry
    (repeat' first|refine vs ?_|(refine br ?_ ?_<;>intro _<;>try(exfalso;first|omega|contradiction))|((with_reducible refine g_idx ?_);((first|refine ix ?_|refine ixi ?_|(refine ixg ?_;intro _ _)|(refine ixgi ?_;intro _ _));first|rintro _ _ _ _ _ ⟨rfl,rfl⟩ _|rintro _ _ _ _ _ ⟨_,rfl,_⟩ _|rintro _ _ _ _ _ ⟨_,_,_,_,rfl,rfl,_,_⟩ _|intro _ _ _ _ _ _ _))|(refine sx ?_;intro _ _)|((with_reducible refine g_awp ?_);simp only [g0,g1,g2]))
    refine aw_call (c _ _ _ (Pol.rep_iff.2 ⟨_, rfl, slr_auto⟩)) ?_
    rintro _ h2 ⟨e2, _, G2, rfl, r2, o2⟩
    rw [Pol.rep_iff] at r2
    obtain ⟨w2, rfl, q2⟩ := r2
    have n2 := e2.1
    (try simp only [push_n, upd_n] at n2)
    (repeat' first|refine vs ?_|(refine br ?_ ?_<;>intro _<;>try(exfalso;first|omega|contradiction))|((with_reducible refine g_idx ?_);((first|refine ix ?_|refine ixi ?_|(refine ixg ?_;intro _ _)|(refine ixgi ?_;intro _ _));first|rintro _ _ _ _ _ ⟨rfl,rfl⟩ _|rintro _ _ _ _ _ ⟨_,rfl,_⟩ _|rintro _ _ _ _ _ ⟨_,_,_,_,rfl,rfl,_,_⟩ _|intro _ _ _ _ _ _ _))|(refine sx ?_;intro _ _)|((with_reducible refine g_awp ?_);simp only [g0,g1,g2]))
    have hlen : (x.l.take i).length = i := by rw [List.length_take]; omega
    refine app1 (n := h.n + 1 + 1 + 1) (xs := x.l.take i) (Fx := G) (a := y) slr_auto (Pol.rep_iff.2 ⟨_, rfl, q2⟩) (own_app (ol_auto) o2 (by simp only [push_n]; omega) dis_auto) om_auto rfl ?_ ?_ ?_
    · rw [hlen]; omega
    · rw [hlen]; omega
    intro u' h' F' ek kp r' o'
    have n3 := kp.1
    (try simp only [push_n, upd_n] at n3)
    (repeat' first|refine vs ?_|(refine br ?_ ?_<;>intro _<;>try(exfalso;first|omega|contradiction))|((with_reducible refine g_idx ?_);((first|refine ix ?_|refine ixi ?_|(refine ixg ?_;intro _ _)|(refine ixgi ?_;intro _ _));first|rintro _ _ _ _ _ ⟨rfl,rfl⟩ _|rintro _ _ _ _ _ ⟨_,rfl,_⟩ _|rintro _ _ _ _ _ ⟨_,_,_,_,rfl,rfl,_,_⟩ _|intro _ _ _ _ _ _ _))|(refine sx ?_;intro _ _)|((with_reducible refine g_awp ?_);simp only [g0,g1,g2]))
    exact ⟨by omega, u', F', rfl, by omega, bk_auto, bk_auto, (ek h ext_auto (by omega)).upd (by (try simp only [push_n, upd_n]); omega) _, by simp only [upd_n]; omega, by rw [htk]; exact slr_auto, ol_auto⟩
  · have hlen : i = x.l.length := by omega
    subst hlen
    rw [List.take_length] at ru
    (repeat' first|refine vs ?_|(refine br ?_ ?_<;>intro _<;>try(exfalso;first|omega|contradiction))|((with_reducible refine g_idx ?_);((first|refine ix ?_|refine ixi ?_|(refine ixg ?_;intro _ _)|(refine ixgi ?_;intro _ _));first|rintro _ _ _ _ _ ⟨rfl,rfl⟩ _|rintro _ _ _ _ _ ⟨_,rfl,_⟩ _|rintro _ _ _ _ _ ⟨_,_,_,_,rfl,rfl,_,_⟩ _|intro _ _ _ _ _ _ _))|(refine sx ?_;intro _ _)|((with_reducible refine g_awp ?_);simp only [g0,g1,g2]))
    exact ⟨rfl, _, rfl, ext_auto, _, _, rfl, Pol.rep_iff.2 ⟨_, rfl, slr_auto⟩, (ol_auto : Own (h.n + 1 + 1 + 1) _ _).mono (by omega) fun _ _ => rfl⟩
theorem s_spec_l5Copy (x : Pol) : Sz.sz x ≤ 67108864 → CopyX Pol Try.prog n_spec_l5Copy x := by
  refine pol_ind (p := fun x => Sz.sz x ≤ 67108864 → CopyX Pol Try.prog n_spec_l5Copy x) ?_ x
  intro x ih hs cs F h r
  rw [Pol.sz_eq] at hs
  rw [Pol.rep_iff] at r
  obtain ⟨v0, rfl, r0⟩ := r
  have hsm := r0.small
  refine c_spec_l5Copy _ ?_
  unfold p_spec_l5Copy
  (repeat' first|refine vs ?_|(refine br ?_ ?_<;>intro _<;>try(exfalso;first|omega|contradiction))|((with_reducible refine g_idx ?_);((first|refine ix ?_|refine ixi ?_|(refine ixg ?_;intro _ _)|(refine ixgi ?_;intro _ _));first|rintro _ _ _ _ _ ⟨rfl,rfl⟩ _|rintro _ _ _ _ _ ⟨_,rfl,_⟩ _|rintro _ _ _ _ _ ⟨_,_,_,_,rfl,rfl,_,_⟩ _|intro _ _ _ _ _ _ _))|(refine sx ?_;intro _ _)|((with_reducible refine g_awp ?_);simp only [g0,g1,g2]))
  refine aw_upto x.l.length (fun i vs h1 => ∃ u G, vs = [.int .i64 (i : Int)] ∧ i ≤ x.l.length ∧ Bk h1 h.n (x.cs v0) 0 ∧ Bk h1 (h.n + 1 + 1) [.int .i64 x.kind, .int .i64 x.n, .str x.key, .str x.text, u] 0 ∧ Bk h1 (h.n + 1) [AV.int .i64 0, AV.int .i64 0, AV.str ⟨#[]⟩, AV.str ⟨#[]⟩, AV.nils] 0 ∧ Ext h h1 ∧ h.n + 1 + 1 + 1 ≤ h1.n ∧ SlRep h1 u (x.l.take i) G ∧ Own (h.n + 1 + 1 + 1) h1 G) ?_ ?_
  · refine ⟨_, [h.n + 1 + 1 + 1], rfl, Nat.zero_le _, bk_auto, bk_auto, bk_auto, ext_auto, by simp only [push_n, upd_n]; omega, ?_, ?_⟩
    · exact (empty_own (α := Pol) (w := 5) rfl).1
    · exact (empty_own (α := Pol) (w := 5) rfl).2 _ (by simp only [push_n]; omega)
  rintro i vs h1 _ ⟨u, G, rfl, hi, b0, b2, b1, e1, m1, ru, ou⟩
  simp only [g0, g1]
  refine vs ?_
  refine br (fun hlt => ?_) (fun hge => ?_)
  · obtain ⟨y, hy, -, htk⟩ := drop_step (show i < x.l.length by omega)
    have hm := szs_mem (List.mem_of_getElem? hy)
    have c := ih y (List.mem_of_getElem? hy) (by omega)
    refine vs ?_
    refine aw_idx r0 hy rfl ?_
    rintro b o cy Fi a ry _
    rw [Pol.rep_iff] at ry
    obtain ⟨vy, rfl, ry⟩ := ry
    (repeat' first|refine vs ?_|(refine br ?_ ?_<;>intro _<;>try(exfalso;first|omega|contradiction))|((with_reducible refine g_idx ?_);((first|refine ix ?_|refine ixi ?_|(refine ixg ?_;intro _ _)|(refine ixgi ?_;intro _ _));first|rintro _ _ _ _ _ ⟨rfl,rfl⟩ _|rintro _ _ _ _ _ ⟨_,rfl,_⟩ _|rintro _ _ _ _ _ ⟨_,_,_,_,rfl,rfl,_,_⟩ _|intro _ _ _ _ _ _ _))|(refine sx ?_;intro _ _)|((with_reducible refine g_awp ?_);simp only [g0,g1,g2]))
    refine aw_call (c _ _ _ (Pol.rep_iff.2 ⟨_, rfl, slr_auto⟩)) ?_
    rintro _ h2 ⟨e2, _, G2, rfl, r2, o2⟩
    rw [Pol.rep_iff] at r2
    obtain ⟨w2, rfl, q2⟩ := r2
    have n2 := e2.1
    (try simp only [push_n, upd_n] at n2)
    (repeat' first|refine vs ?_|(refine br ?_ ?_<;>intro _<;>try(exfalso;first|omega|contradiction))|((with_reducible refine g_idx ?_);((first|refine ix ?_|refine ixi ?_|(refine ixg ?_;intro _ _)|(refine ixgi ?_;intro _ _));first|rintro _ _ _ _ _ ⟨rfl,rfl⟩ _|rintro _ _ _ _ _ ⟨_,rfl,_⟩ _|rintro _ _ _ _ _ ⟨_,_,_,_,rfl,rfl,_,_⟩ _|intro _ _ _ _ _ _ _))|(refine sx ?_;intro _ _)|((with_reducible refine g_awp ?_);simp only [g0,g1,g2]))
    have hlen : (x.l.take i).length = i := by rw [List.length_take]; omega
    refine app1 (n := h.n + 1 + 1 + 1) (xs := x.l.take i) (Fx := G) (a := y) slr_auto (Pol.rep_iff.2 ⟨_, rfl, slr_auto⟩) (own_app (ol_auto) (ol_auto : Own h1.n _ G2) (by omega) dis_auto) om_auto rfl ?_ ?_ ?_
    · rw [hlen]; omega
    · rw [hlen]; omega
    intro u' h' F' ek kp r' o'
    have n3 := kp.1
    (try simp only [push_n, upd_n] at n3)
    (repeat' first|refine vs ?_|(refine br ?_ ?_<;>intro _<;>try(exfalso;first|omega|contradiction))|((with_reducible refine g_idx ?_);((first|refine ix ?_|refine ixi ?_|(refine ixg ?_;intro _ _)|(refine ixgi ?_;intro _ _));first|rintro _ _ _ _ _ ⟨rfl,rfl⟩ _|rintro _ _ _ _ _ ⟨_,rfl,_⟩ _|rintro _ _ _ _ _ ⟨_,_,_,_,rfl,rfl,_,_⟩ _|intro _ _ _ _ _ _ _))|(refine sx ?_;intro _ _)|((with_reducible refine g_awp ?_);simp only [g0,g1,g2]))
    exact ⟨by omega, u', F', rfl, by omega, bk_auto, bk_auto, bk_auto, (ek h ext_auto (by omega)).upd (by (try simp only [push_n, upd_n]); omega) _, by simp only [upd_n]; omega, by rw [htk]; exact slr_auto, ol_auto⟩
  · have hlen : i = x.l.length := by omega
    subst hlen
    rw [List.take_length] at ru
    (repeat' first|refine vs ?_|(refine br ?_ ?_<;>intro _<;>try(exfalso;first|omega|contradiction))|((with_reducible refine g_idx ?_);((first|refine ix ?_|refine ixi ?_|(refine ixg ?_;intro _ _)|(refine ixgi ?_;intro _ _));first|rintro _ _ _ _ _ ⟨rfl,rfl⟩ _|rintro _ _ _ _ _ ⟨_,rfl,_⟩ _|rintro _ _ _ _ _ ⟨_,_,_,_,rfl,rfl,_,_⟩ _|intro _ _ _ _ _ _ _))|(refine sx ?_;intro _ _)|((with_reducible refine g_awp ?_);simp only [g0,g1,g2]))
    exact ⟨rfl, _, rfl, ext_auto, _, _, rfl, Pol.rep_iff.2 ⟨_, rfl, slr_auto⟩, (ol_auto : Own (h.n + 1 + 1 + 1) _ _).mono (by omega) fun _ _ => rfl⟩
theorem s_impl_copyConf (x : Conf) (hs : Sz.sz x ≤ 67108864) : CopyX Conf Try.prog n_impl_copyConf x := by
  rintro cs F h ⟨v0, rfl, r0⟩
  have hx2 : Sz.sz x = Sz.sz x.rule := rfl
  refine c_impl_copyConf _ ?_
  unfold p_impl_copyConf
  (repeat' first|refine vs ?_|(refine br ?_ ?_<;>intro _<;>try(exfalso;first|omega|contradiction))|((with_reducible refine g_callf n_impl_copyPol ?_);(refine aw_call (s_impl_copyPol x.rule (by omega) _ _ _ (Pol.rep_iff.2 ⟨_, rfl, slr_auto⟩)) ?_; rintro _ h2 ⟨e2, _, G2, rfl, r2, o2⟩; rw [Pol.rep_iff] at r2; obtain ⟨w2, rfl, q2⟩ := r2; have n2 := e2.1; (try simp only [push_n, upd_n] at n2)))|((with_reducible refine g_idx ?_);((first|refine ix ?_|refine ixi ?_|(refine ixg ?_;intro _ _)|(refine ixgi ?_;intro _ _));first|rintro _ _ _ _ _ ⟨rfl,rfl⟩ _|rintro _ _ _ _ _ ⟨_,rfl,_⟩ _|rintro _ _ _ _ _ ⟨_,_,_,_,rfl,rfl,_,_⟩ _|intro _ _ _ _ _ _ _))|(refine sx ?_;intro _ _)|((with_reducible refine g_awp ?_);simp only [g0,g1,g2]))
  exact ⟨rfl, _, rfl, ext_auto, _, _, rfl, ⟨_, rfl, slr_auto⟩, ol_auto⟩
theorem s_spec_l13Copy (x : Conf) (hs : Sz.sz x ≤ 67108864) : CopyX Conf Try.prog n_spec_l13Copy x := by
  rintro cs F h ⟨v0, rfl, r0⟩
  have hx2 : Sz.sz x = Sz.sz x.rule := rfl
  refine c_spec_l13Copy _ ?_
  unfold p_spec_l13Copy
  (repeat' first|refine vs ?_|(refine br ?_ ?_<;>intro _<;>try(exfalso;first|omega|contradiction))|((with_reducible refine g_callf n_spec_l5Copy ?_);(refine aw_call (s_spec_l5Copy x.rule (by omega) _ _ _ (Pol.rep_iff.2 ⟨_, rfl, slr_auto⟩)) ?_; rintro _ h2 ⟨e2, _, G2, rfl, r2, o2⟩; rw [Pol.rep_iff] at r2; obtain ⟨w2, rfl, q2⟩ := r2; have n2 := e2.1; (try simp only [push_n, upd_n] at n2)))|((with_reducible refine g_idx ?_);((first|refine ix ?_|refine ixi ?_|(refine ixg ?_;intro _ _)|(refine ixgi ?_;intro _ _));first|rintro _ _ _ _ _ ⟨rfl,rfl⟩ _|rintro _ _ _ _ _ ⟨_,rfl,_⟩ _|rintro _ _ _ _ _ ⟨_,_,_,_,rfl,rfl,_,_⟩ _|intro _ _ _ _ _ _ _))|(refine sx ?_;intro _ _)|((with_reducible refine g_awp ?_);simp only [g0,g1,g2]))
  exact ⟨rfl, _, rfl, ext_auto, _, _, rfl, ⟨_, rfl, slr_auto⟩, ol_auto⟩
end Go.Proofs.Ytideefohbkhhhaa
