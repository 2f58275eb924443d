/- What is drawn: trails. -/
import Derived.Test.YtpcgbddmdipfbaaW51
import Derived.Test.YtpcgbddmdipfbaaW46
import Derived.Test.YtpcgbddmdipfbaaW10
set_option linter.unusedSimpArgs false
set_option linter.unusedVariables false
set_option maxHeartbeats 4000000
namespace Go.Proofs.Ytpcgbddmdipfbaa
open Go Go.Ab
section
/- spec.l10Draw -/
def p_spec_l10Draw (x0 x1 x2 : AV) : Prog := .op (.alloc [AV.int .i64 0, AV.int .i64 0, AV.int .i64 0, AV.nils]) fun v1 => .op (.call n_spec_l1Below [x0, AV.int .i64 5]) fun v2 => .op (.build [AV.int .i64 0, AV.int .i64 0, AV.int .i64 0, AV.nils] [(0, 1, x1), (1, 1, x2), (2, 1, v2)]) fun v3 => .op (.alloc [AV.int .i64 0, AV.int .i64 0, AV.int .i64 0, AV.nils]) fun v4 => .op (.st 4 v4 v3) fun v5 => .op (.call n_spec_l1Below [x0, AV.int .i64 3]) fun v6 => .op (.bin 0 .add (AV.int .i64 1) v6) fun v7 => .loop [v7] (fun vs8 => .op (.bin 0 .gtr (g vs8 0) (AV.int .i64 0)) fun v10 => .ite v10 (.op (.call n_spec_l3Draw [x0]) fun v11 => .op (.alloc z6_822) fun v12 => .op (.st 6 v12 v11) fun v13 => .op (.fad 0 v12) fun v14 => .op (.st 1 v14 x1) fun v15 => .op (.fad 3 v4) fun v16 => .op (.ld1 v16) fun v17 => .op (.ldn 6 v12) fun v18 => .op (.bslice 6 1 z6_822 [(0, 6, v18)]) fun v19 => .op (.app 6 64 v17 v19) fun v20 => .op (.fad 3 v4) fun v21 => .op (.st 1 v21 v20) fun v22 => .op (.bin 0 .sub (g vs8 0) (AV.int .i64 1)) fun v23 => .leaf 0 [v23]) (.leaf 2 [g vs8 0])) fun t9 vs8 => tsel t9 1 (.leaf 1 vs8) (tsel t9 2 (.op (.ldn 4 v4) fun v24 => .op (.st 4 v1 v24) fun v25 => .fin [.cn 4 v1]) .bad)
theorem c_spec_l10Draw (x0 x1 x2 : AV) : CC Try.prog n_spec_l10Draw [x0, x1, x2] (p_spec_l10Draw x0 x1 x2) := cc Try.func209 [0, 1, 6, 7, 8] (fun _ => []) (by kernel_rfl)
/- spec.l10Any -/
def p_spec_l10Any (x0 : AV) : Prog := .op (.alloc [AV.int .i64 0, AV.int .i64 0, AV.int .i64 0, AV.nils]) fun v1 => .op (.call n_spec_l1Below [x0, AV.int .i64 5]) fun v2 => .op (.bin 0 .add (AV.int .i64 1) v2) fun v3 => .op (.call n_spec_l1Below [x0, AV.int .i64 5]) fun v4 => .op (.bin 0 .add (AV.int .i64 1) v4) fun v5 => .op (.call n_spec_l10Draw [x0, v3, v5]) fun v6 => .op (.alloc [AV.int .i64 0, AV.int .i64 0, AV.int .i64 0, AV.nils]) fun v7 => .op (.st 4 v7 v6) fun v8 => .op (.call n_spec_l1Below [x0, AV.int .i64 12]) fun v9 => .op (.bin 0 .eql v9 (AV.int .i64 0)) fun v10 => .scope (.ite v10 (.op (.bslice 1 3 [AV.int .i64 0, AV.int .i64 0, AV.int .i64 0] [(0, 1, AV.int .i64 0), (1, 1, AV.int .i64 999), (2, 1, AV.int .i64 1000)]) fun v11 => .op (.call n_spec_l1Int [x0, v11]) fun v12 => .op (.fad 0 v7) fun v13 => .op (.st 1 v13 v12) fun v14 => .leaf 0 []) (.op (.bin 0 .eql v9 (AV.int .i64 1)) fun v15 => .scope (.ite v15 (.op (.bslice 1 2 [AV.int .i64 0, AV.int .i64 0] [(0, 1, AV.int .i64 0), (1, 1, AV.int .i64 (-1))]) fun v16 => .op (.call n_spec_l1Int [x0, v16]) fun v17 => .op (.fad 1 v7) fun v18 => .op (.st 1 v18 v17) fun v19 => .leaf 0 []) (.op (.bin 0 .eql v9 (AV.int .i64 2)) fun v20 => .scope (.ite v20 (.op (.call n_spec_l1Raw [x0]) fun v21 => .op (.fad 2 v7) fun v22 => .op (.st 1 v22 v21) fun v23 => .leaf 0 []) (.op (.bin 0 .eql v9 (AV.int .i64 3)) fun v24 => .scope (.ite v24 (.op (.fad 3 v7) fun v25 => .op (.ld1 v25) fun v26 => .op (.call n_spec_l3Any [x0]) fun v27 => .chk (.ld1 v25) v26 (.op (.bslice 6 1 z6_822 [(0, 6, v27)]) fun v28 => .op (.app 6 64 v26 v28) fun v29 => .op (.fad 3 v7) fun v30 => .op (.st 1 v30 v29) fun v31 => .leaf 0 [])) (.op (.bin 0 .eql v9 (AV.int .i64 4)) fun v32 => .scope (.ite v32 (.op (.bslice 6 0 [] []) fun v33 => .op (.fad 3 v7) fun v34 => .op (.st 1 v34 v33) fun v35 => .leaf 0 []) (.leaf 0 [])) (fun vs36 => .leaf 0 []) fun t37 vs36 => tsel t37 1 (.leaf 1 vs36) .bad)) (fun vs38 => .leaf 0 []) fun t39 vs38 => tsel t39 1 (.leaf 1 vs38) .bad)) (fun vs40 => .leaf 0 []) fun t41 vs40 => tsel t41 1 (.leaf 1 vs40) .bad)) (fun vs42 => .leaf 0 []) fun t43 vs42 => tsel t43 1 (.leaf 1 vs42) .bad)) (fun vs44 => .op (.ldn 4 v7) fun v46 => .op (.st 4 v1 v46) fun v47 => .fin [.cn 4 v1]) fun t45 vs44 => tsel t45 1 (.leaf 1 vs44) .bad
theorem c_spec_l10Any (x0 : AV) : CC Try.prog n_spec_l10Any [x0] (p_spec_l10Any x0) := cc Try.func168 [2, 3] (fun r => if r = 10 then [(0, []), (1, []), (2, []), (3, [1]), (4, []), (5, []), (6, []), (7, [])] else []) (by kernel_rfl)
/- spec.l10List -/
def p_spec_l10List (x0 : AV) : Prog := .op (.bslice 4 0 [] []) fun v1 => .loop [v1, AV.int .i64 1] (fun vs2 => .op (.bin 0 .lss (g vs2 1) (AV.int .i64 7)) fun v4 => .ite v4 (.op (.call n_spec_l1Once [x0, AV.int .i64 3]) fun v5 => .scope (.ite v5 (.op (.call n_spec_l10Draw [x0, g vs2 1, g vs2 1]) fun v6 => .op (.bslice 4 1 [AV.int .i64 0, AV.int .i64 0, AV.int .i64 0, AV.nils] [(0, 4, v6)]) fun v7 => .op (.app 4 48 (g vs2 0) v7) fun v8 => .leaf 0 [v8]) (.leaf 0 [g vs2 0])) (fun vs9 => .op (.bin 0 .add (g vs2 1) (AV.int .i64 1)) fun v11 => .leaf 0 [g vs9 0, v11]) fun t10 vs9 => tsel t10 1 (.leaf 1 vs9) .bad) (.leaf 2 [g vs2 0, g vs2 1])) fun t3 vs2 => tsel t3 1 (.leaf 1 vs2) (tsel t3 2 (.fin [.val (g vs2 0)]) .bad)
theorem c_spec_l10List (x0 : AV) : CC Try.prog n_spec_l10List [x0] (p_spec_l10List x0) := cc Try.func166 [0, 3, 4] (fun _ => []) (by kernel_rfl)
end
/-- A trail of any kind. -/
def trA (t : Trail) : Prop := rgB t.id ∧ rgB t.stamp ∧ rgB t.first ∧ t.spans.length ≤ 4 ∧ ∀ s ∈ t.spans, sA s
theorem trA_ok {t : Trail} (h : trA t) : Cel.ok t := ⟨rgB_ok h.1, rgB_ok h.2.1, rgB_ok h.2.2.1, fun s hs => sA_ok (h.2.2.2.2 s hs)⟩
theorem trA_sz {t : Trail} (h : trA t) : Sz.sz t ≤ 6000 := by
  have h1 := szs_le (m := 1300) fun s hs => sA_sz (h.2.2.2.2 s hs)
  have h2 := h.2.2.2.1
  show t.spans.length + szs t.spans ≤ 6000
  omega
def tlD (id st : Int) (t : Trail) : Prop := t.id = id ∧ t.stamp = st ∧ (0 ≤ t.first ∧ t.first < 5) ∧ (1 ≤ t.spans.length ∧ t.spans.length ≤ 3) ∧ ∀ s ∈ t.spans, sA s
theorem tlD_A {id st : Int} {t : Trail} (hi : rgB id) (hs : rgB st) (h : tlD id st t) : trA t := by
  obtain ⟨h1, h2, h3, h4, h5⟩ := h
  exact ⟨h1 ▸ hi, h2 ▸ hs, ⟨by omega, by omega⟩, by omega, h5⟩
abbrev zL : List AV := [.int .i64 0, .int .i64 0, .int .i64 0, .nils]
theorem s_spec_l10Draw {h : AH} {c : Nat} {id st : Int} (cu : Cur h c) (hi : rgB id) (hs : rgB st) : ACalls Try.prog n_spec_l10Draw [.ptr c 0, .int .i64 id, .int .i64 st] h (DrX Trail h c (tlD id st)) := by
  have lc := cu.lt
  refine c_spec_l10Draw _ _ _ ?_
  unfold p_spec_l10Draw
  (repeat' first|refine vs0 ?_|((with_reducible refine g_callf n_spec_l1Below ?_);(refine aw_call (s_spec_l1Below cur_auto (by omega) (by omega)) ?_; rintro _ h2 ⟨x, rfl, hx0, hx1, k2, cu2⟩; have n2 := k2.1; (try simp only [push_n, upd_n] at n2)))|((with_reducible refine g_idx ?_);((first|refine ix ?_|refine ixi ?_|(refine ixg ?_;intro _ _)|(refine ixgi ?_;intro _ _));first|rintro _ _ _ _ _ ⟨rfl,rfl⟩ _|rintro _ _ _ _ _ ⟨_,rfl,_⟩ _|rintro _ _ _ _ _ ⟨_,_,_,_,rfl,rfl,_,_⟩ _|intro _ _ _ _ _ _ _))|(refine sx ?_;intro _ _)|((with_reducible refine g_awp ?_);simp only [g0,g1,g2]))
  rename_i h1 y hy0 hy1 k1 cu1 n1
  obtain ⟨x, rfl⟩ : ∃ j : Nat, x = (j : Int) := ⟨x.toNat, by omega⟩
  have en : (1 + (x : Int)) = ((x + 1 : Nat) : Int) := by omega
  rw [en]
  have B1 : Bk h2 h1.n [.int .i64 id, .int .i64 st, .int .i64 y, .nils] 0 := bk_auto
  have B0 : Bk h2 h.n zL 0 := bk_auto
  have K2 : Kp h h2 [c] := kp_auto
  have lt1 : h1.n < h2.n := by omega
  have gt1 : h.n < h1.n := by omega
  clear k2 k1 cu1 n1 n2
  obtain ⟨b, hb⟩ : ∃ b, b = h1.n := ⟨_, rfl⟩
  rw [← hb] at B1 lt1 gt1 ⊢
  clear hb
  refine aw_loop (fun n vs h3 => ∃ va xs G, vs = [.int .i64 (n : Int)] ∧ xs.length + n ≤ 3 ∧ (1 ≤ xs.length ∨ 1 ≤ n) ∧ Bk h3 b [.int .i64 id, .int .i64 st, .int .i64 y, va] 0 ∧ Bk h3 h.n zL 0 ∧ SlRep (α := Span) h3 va xs G ∧ Own (h.n + 1) h3 G ∧ b ∉ G ∧ Kp h h3 [c] ∧ Cur h3 c ∧ (∀ s ∈ xs, sA s) ∧ b < h3.n) (x + 1) ⟨.nils, [], [], rfl, by simp only [List.length_nil]; omega, by omega, B1, B0, SlRep.nils, Own.nil, by simp, K2, cu2, by simp, lt1⟩ ?_
  clear B1 B0 K2 cu2 lt1
  rintro n vs h3 ⟨va, xs, G, rfl, hn, hn1, b3, z3, ru, ou, nb, k3, cu3, hd, lt3⟩
  simp only [g0]
  refine br (fun q => ?_) (fun q => ?_)
  · (repeat' first|refine vs0 ?_|((with_reducible refine g_callf n_spec_l3Draw ?_);(refine aw_call (s_spec_l3Draw cur_auto) ?_; rintro _ h4 ⟨⟨a0, a1, a2, a3, a4, l⟩, _, G4, rfl, ⟨w, rfl, r4⟩, o4, k4, cu4, hd4⟩; have n4 := k4.1; (try simp only [push_n, upd_n] at n4); dsimp only [Span.cs]; replace hd4 := sD_A hd4; dsimp only at r4))|((with_reducible refine g_idx ?_);((first|refine ix ?_|refine ixi ?_|(refine ixg ?_;intro _ _)|(refine ixgi ?_;intro _ _));first|rintro _ _ _ _ _ ⟨rfl,rfl⟩ _|rintro _ _ _ _ _ ⟨_,rfl,_⟩ _|rintro _ _ _ _ _ ⟨_,_,_,_,rfl,rfl,_,_⟩ _|intro _ _ _ _ _ _ _))|(refine sx ?_;intro _ _)|((with_reducible refine g_awp ?_);simp only [g0,g1,g2]))
    have r4u : SlRep h4 va xs G := slr_auto
    have o4u : Own (h.n + 1) h4 G := ol_auto
    have dG : ∀ z ∈ G, z ∉ G4 := dis_own ru o4 (Nat.le_refl _)
    have o44 : Own (h.n + 1) h4 G4 := o4.mono (by omega) fun _ _ => rfl
    refine app1F (n := h.n + 1) (xs := xs) (Fx := G) (a := ⟨id, a1, a2, a3, a4, l⟩) (cs := [.int .i64 id, .int .i64 a1, .int .i64 a2, .int .i64 a3, .bool a4, w]) (G := G4) slr_auto ⟨w, rfl, slr_auto⟩ (own_app ol_auto ol_auto (Nat.le_refl _) dG) om_auto rfl (by omega) (by omega) ?_
    intro u' h5 F5 _ k5 r5 o5 w5
    have n5 := k5.1
    simp only [push_n, upd_n] at n5
    have nb5 : b ∉ F5 := fun hm => by
      rcases w5 _ hm with q9 | q9 | q9
      · exact nb q9
      · have := (o4.2 _ q9).1; omega
      · simp only [push_n, upd_n] at q9; omega
    have nc : c ∉ G := nin_own ou (by omega)
    have cu5 : Cur h5 c := cur_kp1 k5 cur_auto fun z hz => by have := (ou.2 z hz).1; omega
    have z4 : Bk h4 h.n zL 0 := bk_auto
    have z5 : Bk h5 h.n zL 0 := bk_kp1 k5 bk_auto (nin_own ou (by omega))
    have e5 : Kp h h5 [c] := kp_stepN k5 kp_auto fun z hz => by have := (ou.2 z hz).1; omega
    have b4 : Bk h4 b [.int .i64 id, .int .i64 st, .int .i64 y, va] 0 := bk_auto
    have b5 : Bk h5 b [.int .i64 id, .int .i64 st, .int .i64 y, va] 0 := bk_kp1 k5 bk_auto nb
    refine vs ?_
    have en : ((n : Int) - 1) = ((n - 1 : Nat) : Int) := by omega
    rw [en]
    refine ⟨n - 1, by omega, u', _, F5, rfl, ?_, ?_, bk_auto, bk_auto, slr_auto, ol_auto, nb5, kp_auto, cur_auto, ?_, by simp only [upd_n]; omega⟩
    · simp only [List.length_append, List.length_singleton]; omega
    · simp only [List.length_append, List.length_singleton]; omega
    · intro z hz
      rcases List.mem_append.1 hz with g | g
      · exact hd z g
      · rw [List.mem_singleton.1 g]; exact ⟨⟨hi, hd4.1.2⟩, hd4.2⟩
  · refine vs ?_
    exact ⟨rfl, _, rfl, ⟨id, st, y, xs⟩, _, _, rfl, ⟨_, rfl, slr_auto⟩, ol_auto, kp_auto, cur_auto, rfl, rfl, ⟨hy0, hy1⟩, ⟨by show 1 ≤ xs.length; omega, by show xs.length ≤ 3; omega⟩, hd⟩
def LSt (h0 : AH) (c b : Nat) (h : AH) : Prop := ∃ (a0 a1 a2 : Int) (va : AV) (l : List Span) (G : List Nat),
  Bk h b [.int .i64 a0, .int .i64 a1, .int .i64 a2, va] 0 ∧ Bk h h0.n zL 0 ∧ SlRep h va l G ∧ Own (h0.n + 1) h G ∧ b ∉ G ∧ Kp h0 h [c] ∧ Cur h c ∧ h0.n < h.n ∧ b < h.n ∧ (rgB a0 ∧ rgB a1 ∧ rgB a2) ∧ l.length ≤ 4 ∧ ∀ s ∈ l, sA s
theorem s_spec_l10Any {h : AH} {c : Nat} (cu : Cur h c) : ACalls Try.prog n_spec_l10Any [.ptr c 0] h (DrX Trail h c trA) := by
  have lc := cu.lt
  refine c_spec_l10Any _ ?_
  unfold p_spec_l10Any
  (repeat' first|refine vs0 ?_|((with_reducible refine g_callf n_spec_l1Below ?_);(refine aw_call (s_spec_l1Below cur_auto (by omega) (by omega)) ?_; rintro _ h2 ⟨x, rfl, hx0, hx1, k2, cu2⟩; have n2 := k2.1; (try simp only [push_n, upd_n] at n2)))|((with_reducible refine g_callf n_spec_l10Draw ?_);(refine aw_call (s_spec_l10Draw cur_auto ⟨by omega, by omega⟩ ⟨by omega, by omega⟩) ?_; rintro _ h2 ⟨⟨a0, a1, a2, l⟩, _, G, rfl, ⟨u, rfl, ru⟩, ou, k2, cu2, hd⟩; have n2 := k2.1; (try simp only [push_n, upd_n] at n2); dsimp only [Trail.cs]; dsimp only at ru))|((with_reducible refine g_idx ?_);((first|refine ix ?_|refine ixi ?_|(refine ixg ?_;intro _ _)|(refine ixgi ?_;intro _ _));first|rintro _ _ _ _ _ ⟨rfl,rfl⟩ _|rintro _ _ _ _ _ ⟨_,rfl,_⟩ _|rintro _ _ _ _ _ ⟨_,_,_,_,rfl,rfl,_,_⟩ _|intro _ _ _ _ _ _ _))|(refine sx ?_;intro _ _)|((with_reducible refine g_awp ?_);simp only [g0,g1,g2]))
  rename_i g0 x9 hx9 hx8 _ _ _ g1 x7 hx7 hx6 _ _ _ g2 ng kg cg
  have hd' := tlD_A ⟨by omega, by omega⟩ ⟨by omega, by omega⟩ hd
  obtain ⟨z0, z1, z2, z3, z4⟩ := hd'
  have hl3 : l.length ≤ 3 := hd.2.2.2.1.2
  dsimp only at z0 z1 z2 z4
  refine aw_eqjoin (LSt h c g2.n) (fun q => ?_) (fun q => ?_) ?_
  · (repeat' first|refine vs ?_|(refine br ?_ ?_<;>intro _<;>try(exfalso;first|omega|contradiction))|((with_reducible refine g_callf n_spec_l1Int ?_);(refine aw_call (s_spec_l1Int cur_auto bk_auto om_auto (by rfl) (by decide) (by decide) iv_auto) ?_; rintro _ h2 ⟨x, rfl, hx0, hx1, k2, cu2⟩; have n2 := k2.1; (try simp only [push_n, upd_n] at n2)))|((with_reducible refine g_idx ?_);((first|refine ix ?_|refine ixi ?_|(refine ixg ?_;intro _ _)|(refine ixgi ?_;intro _ _));first|rintro _ _ _ _ _ ⟨rfl,rfl⟩ _|rintro _ _ _ _ _ ⟨_,rfl,_⟩ _|rintro _ _ _ _ _ ⟨_,_,_,_,rfl,rfl,_,_⟩ _|intro _ _ _ _ _ _ _))|(refine sx ?_;intro _ _)|((with_reducible refine g_awp ?_);simp only [g0,g1,g2]))
    exact ⟨rfl, _, _, _, _, _, _, bk_auto, bk_auto, slr_auto, ol_auto, nin_auto, kp_auto, cur_auto, om_auto, om_auto, ⟨by first | assumption | exact rgS hx0 hx1, by first | assumption | exact rgS hx0 hx1, by first | assumption | exact rgS hx0 hx1⟩, by omega, z4⟩
  · (repeat' first|refine vs ?_|(refine br ?_ ?_<;>intro _<;>try(exfalso;first|omega|contradiction))|((with_reducible refine g_callf n_spec_l1Int ?_);(refine aw_call (s_spec_l1Int cur_auto bk_auto om_auto (by rfl) (by decide) (by decide) iv_auto) ?_; rintro _ h2 ⟨x, rfl, hx0, hx1, k2, cu2⟩; have n2 := k2.1; (try simp only [push_n, upd_n] at n2)))|((with_reducible refine g_callf n_spec_l1Raw ?_);(refine aw_call (s_spec_l1Raw cur_auto) ?_; rintro _ h2 ⟨x, rfl, hr, k2, cu2⟩; have n2 := k2.1; (try simp only [push_n, upd_n] at n2)))|((with_reducible refine g_callf n_spec_l3Any ?_);(refine aw_call (s_spec_l3Any cur_auto) ?_; rintro _ h4 ⟨s4, _, G4, rfl, ⟨w, rfl, r4⟩, o4, k4, cu4, hd4⟩; have n4 := k4.1; (try simp only [push_n, upd_n] at n4)))|((with_reducible refine g_idx ?_);((first|refine ix ?_|refine ixi ?_|(refine ixg ?_;intro _ _)|(refine ixgi ?_;intro _ _));first|rintro _ _ _ _ _ ⟨rfl,rfl⟩ _|rintro _ _ _ _ _ ⟨_,rfl,_⟩ _|rintro _ _ _ _ _ ⟨_,_,_,_,rfl,rfl,_,_⟩ _|intro _ _ _ _ _ _ _))|(refine sx ?_;intro _ _)|((with_reducible refine g_awp ?_);simp only [g0,g1,g2]))
    · exact ⟨rfl, _, _, _, _, _, _, bk_auto, bk_auto, slr_auto, ol_auto, nin_auto, kp_auto, cur_auto, om_auto, om_auto, ⟨by first | assumption | exact rgS hx0 hx1, by first | assumption | exact rgS hx0 hx1, by first | assumption | exact rgS hx0 hx1⟩, by omega, z4⟩
    · exact ⟨rfl, _, _, _, _, _, _, bk_auto, bk_auto, slr_auto, ol_auto, nin_auto, kp_auto, cur_auto, om_auto, om_auto, ⟨by first | assumption | exact rgS hx0 hx1, by first | assumption | exact rgS hx0 hx1, by first | assumption | exact rgS hx0 hx1⟩, by omega, z4⟩
    · have ru4 : SlRep h4 u l G := slr_auto
      have ou4 : Own (h.n + 1) h4 G := ol_auto
      have o44 : Own (h.n + 1) h4 G4 := o4.mono (by omega) fun _ _ => rfl
      have b4 : Bk h4 g2.n [.int .i64 a0, .int .i64 a1, .int .i64 a2, u] 0 := bk_auto
      have z4' : Bk h4 h.n zL 0 := bk_auto
      have ng2 : g2.n ∉ G := nin_lt ru (Nat.le_refl _)
      have nh : h.n ∉ G := nin_own ou4 (by omega)
      have kk : Kp h h4 [c] := kp_auto
      refine app1F (n := h.n + 1) (xs := l) (Fx := G) (a := s4) (cs := s4.cs w) (G := G4) ru4 ⟨w, rfl, r4⟩ (own_app ou4 o44 (Nat.le_refl _) (dis_own ru o4 (by omega))) (by omega) rfl (by omega) (by omega) ?_
      intro u' h5 F5 _ k5 r5 o5 w5
      have n5 := k5.1
      have b5 := bk_kp1 k5 b4 ng2
      have z5 := bk_kp1 k5 z4' nh
      have n55 : g2.n ∉ F5 := fun hm => by
        rcases w5 _ hm with q9 | q9 | q9
        · exact ng2 q9
        · have := (o4.2 _ q9).1; omega
        · omega
      have cu5 : Cur h5 c := cur_kp1 k5 cu4 fun z hz => by have := (ou4.2 z hz).1; omega
      have e5 : Kp h h5 [c] := kp_stepN k5 kk fun z hz => by have := (ou4.2 z hz).1; omega
      refine vs ?_
      refine ⟨rfl, _, _, _, _, _, _, bk_auto, bk_auto, slr_auto, ol_auto, n55, kp_auto, cur_auto, om_auto, om_auto, ⟨z0, z1, z2⟩, ?_, ?_⟩
      · simp only [List.length_append, List.length_singleton]; omega
      · intro z hz
        rcases List.mem_append.1 hz with g | g
        · exact z4 z g
        · rw [List.mem_singleton.1 g]; exact hd4
    · obtain ⟨re, oe⟩ := empty_own (h := h2.upd g2.n ⟨[.int .i64 a0, .int .i64 a1, .int .i64 a2, .sl h2.n 0 0], 0, 0⟩) (α := Span) (w := 6) rfl
      have re' : SlRep _ (.sl h2.n 0 0) ([] : List Span) [h2.n] := re
      have oe' : Own (h.n + 1) _ [h2.n] := oe (h.n + 1) (by simp only [upd_n]; omega)
      exact ⟨rfl, a0, a1, a2, .sl h2.n 0 0, [], [h2.n], bk_auto, bk_auto, re', oe', nin_one (by omega), kp_auto, cur_auto, om_auto, om_auto, ⟨z0, z1, z2⟩, by simp, by simp⟩
    · exact ⟨rfl, _, _, _, _, _, _, bk_auto, bk_auto, slr_auto, ol_auto, nin_auto, kp_auto, cur_auto, om_auto, om_auto, ⟨by first | assumption | exact rgS hx0 hx1, by first | assumption | exact rgS hx0 hx1, by first | assumption | exact rgS hx0 hx1⟩, by omega, z4⟩
  obtain ⟨b, hb⟩ : ∃ b, b = g2.n := ⟨_, rfl⟩
  have hbn : h.n < b := by omega
  rw [← hb]
  clear hb
  rintro _ h1 ⟨a0, a1, a2, va, l, G, bk, bz, ru, ou, nb, kp, cu1, l1, l2, hs, hl, ha⟩
  (repeat' first|refine vs ?_|(refine br ?_ ?_<;>intro _<;>try(exfalso;first|omega|contradiction))|((with_reducible refine g_idx ?_);((first|refine ix ?_|refine ixi ?_|(refine ixg ?_;intro _ _)|(refine ixgi ?_;intro _ _));first|rintro _ _ _ _ _ ⟨rfl,rfl⟩ _|rintro _ _ _ _ _ ⟨_,rfl,_⟩ _|rintro _ _ _ _ _ ⟨_,_,_,_,rfl,rfl,_,_⟩ _|intro _ _ _ _ _ _ _))|(refine sx ?_;intro _ _)|((with_reducible refine g_awp ?_);simp only [g0,g1,g2]))
  exact ⟨rfl, _, rfl, ⟨_, _, _, l⟩, _, _, rfl, ⟨_, rfl, slr_auto⟩, ol_auto, kp_auto, cur_auto, ⟨hs.1, hs.2.1, hs.2.2, hl, ha⟩⟩
theorem s_spec_l10List {h : AH} {c : Nat} (cu : Cur h c) : ACalls Try.prog n_spec_l10List [.ptr c 0] h (DrS Trail h c fun l => l.length ≤ 6 ∧ ∀ t ∈ l, trA t) := by
  have lc := cu.lt
  refine c_spec_l10List _ ?_
  unfold p_spec_l10List
  obtain ⟨re, oe⟩ := empty_own (h := h) (α := Trail) (w := 4) rfl
  refine vs0 ?_
  refine aw_loop (fun n vs h3 => ∃ u xs G, vs = [u, .int .i64 (7 - (n : Int))] ∧ xs.length + n ≤ 6 ∧ Kp h h3 [c] ∧ Cur h3 c ∧ SlRep (α := Trail) h3 u xs G ∧ Own h.n h3 G ∧ ∀ t ∈ xs, trA t) 6 ⟨_, [], _, rfl, by simp, kp_auto, cur_auto, re, oe _ (Nat.le_refl _), by simp⟩ ?_
  rintro n vs h3 ⟨u, xs, G, rfl, hn, k3, cu3, ru, ou, hd⟩
  have n3 := k3.1
  simp only [g0, g1]
  refine br (fun q => ?_) (fun q => ?_)
  · have en : ((7 : Int) - (n : Int) + 1) = 7 - ((n - 1 : Nat) : Int) := by omega
    (repeat' first|refine vs0 ?_|((with_reducible refine g_callf n_spec_l1Once ?_);(refine aw_call (s_spec_l1Once cur_auto (by omega) (by omega)) ?_; rintro _ h2 ⟨b, rfl, k2, cu2⟩; have n2 := k2.1; (try simp only [push_n, upd_n] at n2); cases b))|((with_reducible refine g_idx ?_);((first|refine ix ?_|refine ixi ?_|(refine ixg ?_;intro _ _)|(refine ixgi ?_;intro _ _));first|rintro _ _ _ _ _ ⟨rfl,rfl⟩ _|rintro _ _ _ _ _ ⟨_,rfl,_⟩ _|rintro _ _ _ _ _ ⟨_,_,_,_,rfl,rfl,_,_⟩ _|intro _ _ _ _ _ _ _))|(refine sx ?_;intro _ _)|((with_reducible refine g_awp ?_);simp only [g0,g1,g2]))
    · refine vs ?_
      refine ⟨n - 1, by omega, u, xs, G, by rw [en]; rfl, by omega, kp_auto, cur_auto, slr_kp1 k2 ru (dis_one (nin_own ou (by omega))), (ol_kp1 k2 (ol_mk ou ru (Nat.le_refl _)) (dis_one (nin_own ou (by omega)))).1, hd⟩
    · (repeat' first|refine vs ?_|(refine br ?_ ?_<;>intro _<;>try(exfalso;first|omega|contradiction))|((with_reducible refine g_callf n_spec_l10Draw ?_);(refine aw_call (s_spec_l10Draw cur_auto ⟨by omega, by omega⟩ ⟨by omega, by omega⟩) ?_; rintro _ h4 ⟨t, _, G4, rfl, ⟨w, rfl, r4⟩, o4, k4, cu4, hd4⟩; have n4 := k4.1; (try simp only [push_n, upd_n] at n4)))|((with_reducible refine g_idx ?_);((first|refine ix ?_|refine ixi ?_|(refine ixg ?_;intro _ _)|(refine ixgi ?_;intro _ _));first|rintro _ _ _ _ _ ⟨rfl,rfl⟩ _|rintro _ _ _ _ _ ⟨_,rfl,_⟩ _|rintro _ _ _ _ _ ⟨_,_,_,_,rfl,rfl,_,_⟩ _|intro _ _ _ _ _ _ _))|(refine sx ?_;intro _ _)|((with_reducible refine g_awp ?_);simp only [g0,g1,g2]))
      have nc : c ∉ G := nin_own ou (by omega)
      have ru2 : SlRep h2 u xs G := slr_kp1 k2 ru (dis_one nc)
      have ou2 : Own h.n h2 G := (ol_kp1 k2 (ol_mk ou ru (Nat.le_refl _)) (dis_one nc)).1
      have ru4 : SlRep h4 u xs G := slr_kp1 k4 ru2 (dis_one nc)
      have ou4 : Own h.n h4 G := (ol_kp1 k4 (ol_mk ou2 ru2 (Nat.le_refl _)) (dis_one nc)).1
      have dG : ∀ z ∈ G, z ∉ G4 := dis_own ru2 o4 (Nat.le_refl _)
      have kk : Kp h h4 [c] := kp_auto
      refine app1F (n := h.n) (xs := xs) (Fx := G) (a := t) (cs := t.cs w) (G := G4) ru4 ⟨w, rfl, r4⟩ (own_app ou4 (o4.mono (by omega) fun _ _ => rfl) (Nat.le_refl _) dG) (by omega) rfl (by omega) (by omega) ?_
      intro u' h5 F5 _ k5 r5 o5 w5
      have cu5 : Cur h5 c := cur_kp1 k5 cu4 fun z hz => by have := (ou.2 z hz).1; omega
      have e5 : Kp h h5 [c] := kp_stepN k5 kk fun z hz => (ou.2 z hz).1
      refine vs ?_
      refine ⟨n - 1, by omega, u', _, F5, by rw [en]; rfl, ?_, e5, cu5, r5, o5, ?_⟩
      · simp only [List.length_append, List.length_singleton]; omega
      · intro z hz
        rcases List.mem_append.1 hz with g | g
        · exact hd z g
        · rw [List.mem_singleton.1 g]; exact tlD_A ⟨by omega, by omega⟩ ⟨by omega, by omega⟩ hd4
  · (repeat' first|refine vs ?_|(refine br ?_ ?_<;>intro _<;>try(exfalso;first|omega|contradiction))|((with_reducible refine g_idx ?_);((first|refine ix ?_|refine ixi ?_|(refine ixg ?_;intro _ _)|(refine ixgi ?_;intro _ _));first|rintro _ _ _ _ _ ⟨rfl,rfl⟩ _|rintro _ _ _ _ _ ⟨_,rfl,_⟩ _|rintro _ _ _ _ _ ⟨_,_,_,_,rfl,rfl,_,_⟩ _|intro _ _ _ _ _ _ _))|(refine sx ?_;intro _ _)|((with_reducible refine g_awp ?_);simp only [g0,g1,g2]))
    exact ⟨rfl, _, rfl, xs, G, slr_auto, ou, kp_auto, cur_auto, by omega, hd⟩
end Go.Proofs.Ytpcgbddmdipfbaa
