
/- What is drawn: what is handed on. -/
import Derived.Test.YtpcgbddmdipfbaaW51
import Derived.Test.YtpcgbddmdipfbaaW46
set_option linter.unusedSimpArgs false
set_option linter.unusedVariables false
set_option maxHeartbeats 2000000
namespace Go.Proofs.Ytpcgbddmdipfbaa
open Go Go.Ab
section
/- spec.l14Item -/
def p_spec_l14Item (x0 : AV) : Prog := .op (.alloc z7_a90) fun v1 => .op (.call n_spec_l1Below [x0, AV.int .i64 4]) fun v2 => .op (.bin 0 .add (AV.int .i64 1) v2) fun v3 => .op (.call n_spec_l3Draw [x0]) fun v4 => .op (.build z7_a90 [(0, 1, v3), (1, 6, v4)]) fun v5 => .op (.alloc z7_a90) fun v6 => .op (.st 7 v6 v5) fun v7 => .op (.call n_spec_l1Below [x0, AV.int .i64 10]) fun v8 => .op (.bin 0 .eql v8 (AV.int .i64 0)) fun v9 => .scope (.ite v9 (.op (.bslice 1 2 [AV.int .i64 0, AV.int .i64 0] [(0, 1, AV.int .i64 0), (1, 1, AV.int .i64 (-1))]) fun v10 => .op (.call n_spec_l1Int [x0, v10]) fun v11 => .op (.fad 0 v6) fun v12 => .op (.st 1 v12 v11) fun v13 => .leaf 0 []) (.op (.bin 0 .eql v8 (AV.int .i64 1)) fun v14 => .scope (.ite v14 (.op (.call n_spec_l3Any [x0]) fun v15 => .op (.fad 1 v6) fun v16 => .op (.st 6 v16 v15) fun v17 => .leaf 0 []) (.leaf 0 [])) (fun vs18 => .leaf 0 []) fun t19 vs18 => tsel t19 1 (.leaf 1 vs18) .bad)) (fun vs20 => .op (.ldn 7 v6) fun v22 => .op (.st 7 v1 v22) fun v23 => .fin [.cn 7 v1]) fun t21 vs20 => tsel t21 1 (.leaf 1 vs20) .bad
theorem c_spec_l14Item (x0 : AV) : CC Try.prog n_spec_l14Item [x0] (p_spec_l14Item x0) := cc Try.func159 [2, 3] (fun _ => []) (by kernel_rfl)
/- spec.DrawItemOk -/
def p_spec_DrawItemOk (x0 : AV) : Prog := .op (.alloc z7_a90) fun v1 => .op (.call n_spec_l1New [x0]) fun v2 => .op (.call n_spec_l14Item [v2]) fun v3 => .op (.st 7 v1 v3) fun v4 => .fin [.cn 7 v1]
theorem c_spec_DrawItemOk (x0 : AV) : CC Try.prog n_spec_DrawItemOk [x0] (p_spec_DrawItemOk x0) := cc Try.func68 [] (fun _ => []) (by kernel_rfl)
/- spec.DrawSameItem -/
def p_spec_DrawSameItem (x0 : AV) : Prog := .op (.alloc z7_a90) fun v1 => .op (.alloc z7_a90) fun v2 => .op (.call n_spec_l1New [x0]) fun v3 => .op (.call n_spec_l14Item [v3]) fun v4 => .op (.alloc z7_a90) fun v5 => .op (.st 7 v5 v4) fun v6 => .op (.call n_spec_l1Once [v3, AV.int .i64 2]) fun v7 => .ite v7 (.op (.ldn 7 v5) fun v8 => .op (.fad 0 v5) fun v9 => .op (.ld1 v9) fun v10 => .op (.fad 1 v5) fun v11 => .op (.ldn 6 v11) fun v12 => .op (.call n_spec_l3Copy [v12]) fun v13 => .chk (.ldn 7 v5) v8 (.chk (.ld1 v9) v10 (.op (.build z7_a90 [(0, 1, v10), (1, 6, v13)]) fun v14 => .op (.st 7 v1 v8) fun v15 => .chk (.ld1 v9) v10 (.op (.st 7 v2 v14) fun v16 => .fin [.cn 7 v1, .cn 7 v2])))) (.op (.ldn 7 v5) fun v17 => .op (.call n_spec_l14Item [v3]) fun v18 => .chk (.ldn 7 v5) v17 (.op (.st 7 v1 v17) fun v19 => .op (.st 7 v2 v18) fun v20 => .fin [.cn 7 v1, .cn 7 v2]))
theorem c_spec_DrawSameItem (x0 : AV) : CC Try.prog n_spec_DrawSameItem [x0] (p_spec_DrawSameItem x0) := cc Try.func69 [] (fun r => if r = 4 then [(0, []), (1, []), (2, []), (3, []), (4, []), (5, [0, 2]), (6, []), (7, [2]), (8, [])] else if r = 5 then [(0, []), (1, []), (2, [0]), (3, []), (4, [])] else []) (by kernel_rfl)
/- spec.DrawItemsOf -/
def p_spec_DrawItemsOf (x0 : AV) : Prog := .op (.call n_spec_l1New [x0]) fun v1 => .op (.bslice 7 0 [] []) fun v2 => .op (.call n_spec_l1Below [v1, AV.int .i64 6]) fun v3 => .loop [v2, v3] (fun vs4 => .op (.bin 0 .gtr (g vs4 1) (AV.int .i64 0)) fun v6 => .ite v6 (.op (.call n_spec_l14Item [v1]) fun v7 => .op (.bslice 7 1 z7_a90 [(0, 7, v7)]) fun v8 => .op (.app 7 72 (g vs4 0) v8) fun v9 => .op (.bin 0 .sub (g vs4 1) (AV.int .i64 1)) fun v10 => .leaf 0 [v9, v10]) (.leaf 2 [g vs4 0, g vs4 1])) fun t5 vs4 => tsel t5 1 (.leaf 1 vs4) (tsel t5 2 (.op (.call n_spec_l1Below [v1, AV.int .i64 5]) fun v11 => .fin [.val (g vs4 0), .val v11]) .bad)
theorem c_spec_DrawItemsOf (x0 : AV) : CC Try.prog n_spec_DrawItemsOf [x0] (p_spec_DrawItemsOf x0) := cc Try.func70 [4, 5, 6] (fun _ => []) (by kernel_rfl)
end
def iA (x : Itm) : Prop := rgB x.stamp ∧ sA x.s
theorem iA_ok {x : Itm} (h : iA x) : Cel.ok x := ⟨rgB_ok h.1, sA_ok h.2⟩
abbrev zI : List AV := [.int .i64 0, .int .i64 0, .int .i64 0, .int .i64 0, .int .i64 0, .bool false, .nils]
def ISt (h0 : AH) (c b : Nat) (h : AH) : Prop := ∃ (s a0 a1 a2 a3 : Int) (a4 : Bool) (va : AV) (l : List Attr) (G : List Nat),
  Bk h b [.int .i64 s, .int .i64 a0, .int .i64 a1, .int .i64 a2, .int .i64 a3, .bool a4, va] 0 ∧ Bk h h0.n zI 0 ∧ SlRep h va l G ∧ Own (h0.n + 1) h G ∧ b ∉ G ∧ Kp h0 h [c] ∧ Cur h c ∧ h0.n < h.n ∧ b < h.n ∧ (rgB s ∧ rgB a0 ∧ rgB a1 ∧ rgB a2 ∧ rgB a3) ∧ asA l
theorem s_spec_l14Item {h : AH} {c : Nat} (cu : Cur h c) : ACalls Try.prog n_spec_l14Item [.ptr c 0] h (DrX Itm h c iA) := by
  have lc := cu.lt
  refine c_spec_l14Item _ ?_
  unfold p_spec_l14Item
  (repeat' first|refine vs0 ?_|((with_reducible refine g_callf n_spec_l1Below ?_);(refine aw_call (s_spec_l1Below cur_auto (by omega) (by omega)) ?_; rintro _ h2 ⟨x, rfl, hx0, hx1, k2, cu2⟩; have n2 := k2.1; (try simp only [push_n, upd_n] at n2)))|((with_reducible refine g_callf n_spec_l3Draw ?_);(refine aw_call (s_spec_l3Draw cur_auto) ?_; rintro _ h2 ⟨⟨a0, a1, a2, a3, a4, l⟩, _, G, rfl, ⟨u, rfl, ru⟩, ou, k2, cu2, hd⟩; have n2 := k2.1; (try simp only [push_n, upd_n] at n2); dsimp only [Span.cs]; replace hd := sD_A hd; obtain ⟨⟨z0, z1, z2, z3⟩, hl⟩ := hd; dsimp only at z0 z1 z2 z3 hl ru))|((with_reducible refine g_idx ?_);((first|refine ix ?_|refine ixi ?_|(refine ixg ?_;intro _ _)|(refine ixgi ?_;intro _ _));first|rintro _ _ _ _ _ ⟨rfl,rfl⟩ _|rintro _ _ _ _ _ ⟨_,rfl,_⟩ _|rintro _ _ _ _ _ ⟨_,_,_,_,rfl,rfl,_,_⟩ _|intro _ _ _ _ _ _ _))|(refine sx ?_;intro _ _)|((with_reducible refine g_awp ?_);simp only [g0,g1,g2]))
  rename_i x9 hx9 hx8 _ _ _ g0 _ _ _
  refine aw_eqjoin (ISt h c g0.n) (fun q => ?_) (fun q => ?_) ?_
  · (repeat' first|refine vs ?_|(refine br ?_ ?_<;>intro _<;>try(exfalso;first|omega|contradiction))|((with_reducible refine g_callf n_spec_l1Int ?_);(refine aw_call (s_spec_l1Int cur_auto bk_auto om_auto (by rfl) (by decide) (by decide) iv_auto) ?_; rintro _ h2 ⟨x, rfl, hx0, hx1, k2, cu2⟩; have n2 := k2.1; (try simp only [push_n, upd_n] at n2)))|((with_reducible refine g_idx ?_);((first|refine ix ?_|refine ixi ?_|(refine ixg ?_;intro _ _)|(refine ixgi ?_;intro _ _));first|rintro _ _ _ _ _ ⟨rfl,rfl⟩ _|rintro _ _ _ _ _ ⟨_,rfl,_⟩ _|rintro _ _ _ _ _ ⟨_,_,_,_,rfl,rfl,_,_⟩ _|intro _ _ _ _ _ _ _))|(refine sx ?_;intro _ _)|((with_reducible refine g_awp ?_);simp only [g0,g1,g2]))
    exact ⟨rfl, _, _, _, _, _, _, _, _, _, bk_auto, bk_auto, slr_auto, ol_auto, nin_auto, kp_auto, cur_auto, om_auto, om_auto, ⟨by first | assumption | exact rgS hx0 hx1 | exact rgS (by omega) (by omega), by first | assumption | exact rgS hx0 hx1 | exact rgS (by omega) (by omega), by first | assumption | exact rgS hx0 hx1 | exact rgS (by omega) (by omega), by first | assumption | exact rgS hx0 hx1 | exact rgS (by omega) (by omega), by first | assumption | exact rgS hx0 hx1 | exact rgS (by omega) (by omega)⟩, by assumption⟩
  · (repeat' first|refine vs ?_|(refine br ?_ ?_<;>intro _<;>try(exfalso;first|omega|contradiction))|((with_reducible refine g_callf n_spec_l3Any ?_);(refine aw_call (s_spec_l3Any cur_auto) ?_; rintro _ h2 ⟨⟨a0, a1, a2, a3, a4, l⟩, _, G, rfl, ⟨u, rfl, ru⟩, ou, k2, cu2, hd⟩; have n2 := k2.1; (try simp only [push_n, upd_n] at n2); dsimp only [Span.cs]; obtain ⟨⟨z0, z1, z2, z3⟩, hl⟩ := hd; dsimp only at z0 z1 z2 z3 hl ru))|((with_reducible refine g_idx ?_);((first|refine ix ?_|refine ixi ?_|(refine ixg ?_;intro _ _)|(refine ixgi ?_;intro _ _));first|rintro _ _ _ _ _ ⟨rfl,rfl⟩ _|rintro _ _ _ _ _ ⟨_,rfl,_⟩ _|rintro _ _ _ _ _ ⟨_,_,_,_,rfl,rfl,_,_⟩ _|intro _ _ _ _ _ _ _))|(refine sx ?_;intro _ _)|((with_reducible refine g_awp ?_);simp only [g0,g1,g2]))
    · exact ⟨rfl, _, _, _, _, _, _, _, _, _, bk_auto, bk_auto, slr_auto, ol_auto, nin_auto, kp_auto, cur_auto, om_auto, om_auto, ⟨by first | assumption | exact rgS hx0 hx1 | exact rgS (by omega) (by omega), by first | assumption | exact rgS hx0 hx1 | exact rgS (by omega) (by omega), by first | assumption | exact rgS hx0 hx1 | exact rgS (by omega) (by omega), by first | assumption | exact rgS hx0 hx1 | exact rgS (by omega) (by omega), by first | assumption | exact rgS hx0 hx1 | exact rgS (by omega) (by omega)⟩, by assumption⟩
    · exact ⟨rfl, _, _, _, _, _, _, _, _, _, bk_auto, bk_auto, slr_auto, ol_auto, nin_auto, kp_auto, cur_auto, om_auto, om_auto, ⟨by first | assumption | exact rgS hx0 hx1 | exact rgS (by omega) (by omega), by first | assumption | exact rgS hx0 hx1 | exact rgS (by omega) (by omega), by first | assumption | exact rgS hx0 hx1 | exact rgS (by omega) (by omega), by first | assumption | exact rgS hx0 hx1 | exact rgS (by omega) (by omega), by first | assumption | exact rgS hx0 hx1 | exact rgS (by omega) (by omega)⟩, by assumption⟩
  obtain ⟨b, hb⟩ : ∃ b, b = g0.n := ⟨_, rfl⟩
  have hbn : h.n < b := by omega
  rw [← hb]
  clear hb
  rintro _ h1 ⟨s, a0, a1, a2, a3, a4, va, l, G, bk, bz, ru, ou, nb, kp, cu1, l1, l2, ⟨z9, z0, z1, z2, z3⟩, ha⟩
  (repeat' first|refine vs ?_|(refine br ?_ ?_<;>intro _<;>try(exfalso;first|omega|contradiction))|((with_reducible refine g_idx ?_);((first|refine ix ?_|refine ixi ?_|(refine ixg ?_;intro _ _)|(refine ixgi ?_;intro _ _));first|rintro _ _ _ _ _ ⟨rfl,rfl⟩ _|rintro _ _ _ _ _ ⟨_,rfl,_⟩ _|rintro _ _ _ _ _ ⟨_,_,_,_,rfl,rfl,_,_⟩ _|intro _ _ _ _ _ _ _))|(refine sx ?_;intro _ _)|((with_reducible refine g_awp ?_);simp only [g0,g1,g2]))
  exact ⟨rfl, _, rfl, ⟨s, ⟨_, _, _, _, _, l⟩⟩, _, _, rfl, ⟨_, rfl, slr_auto⟩, ol_auto, kp_auto, cur_auto, ⟨z9, ⟨z0, z1, z2, z3⟩, ha⟩⟩
theorem s_spec_DrawItemOk {h : AH} {l : List UInt8} {v : AV} {F : List Nat} (hs : l.length ≤ 1048576) (r : SlRep h v l F) : ACalls Try.prog n_spec_DrawItemOk [v] h (DwX Itm h iA) := by
  refine c_spec_DrawItemOk _ ?_
  unfold p_spec_DrawItemOk
  (repeat' first|refine vs ?_|(refine br ?_ ?_<;>intro _<;>try(exfalso;first|omega|contradiction))|((with_reducible refine g_callf n_spec_l1New ?_);(refine aw_call (s_spec_l1New hs slr_auto) ?_; rintro _ h1 ⟨c, rfl, e1, lc, cu1⟩; have n1 := e1.1; (try simp only [push_n, upd_n] at n1); (try simp only [push_n, upd_n] at lc); have lc2 := cu1.lt))|((with_reducible refine g_callf n_spec_l14Item ?_);(refine aw_call (s_spec_l14Item cur_auto) ?_; rintro _ h2 ⟨d, _, G, rfl, ⟨u, rfl, ru⟩, ou, k2, cu2, hd⟩; have n2 := k2.1; (try simp only [push_n, upd_n] at n2)))|((with_reducible refine g_idx ?_);((first|refine ix ?_|refine ixi ?_|(refine ixg ?_;intro _ _)|(refine ixgi ?_;intro _ _));first|rintro _ _ _ _ _ ⟨rfl,rfl⟩ _|rintro _ _ _ _ _ ⟨_,rfl,_⟩ _|rintro _ _ _ _ _ ⟨_,_,_,_,rfl,rfl,_,_⟩ _|intro _ _ _ _ _ _ _))|(refine sx ?_;intro _ _)|((with_reducible refine g_awp ?_);simp only [g0,g1,g2]))
  exact ⟨rfl, _, rfl, d, _, _, rfl, ⟨u, rfl, slr_auto⟩, ol_auto, exc_auto, hd⟩
theorem s_spec_DrawSameItem {h : AH} {l : List UInt8} {v : AV} {F : List Nat} (hs : l.length ≤ 1048576) (r : SlRep h v l F) : ACalls Try.prog n_spec_DrawSameItem [v] h (Dw2 Itm h fun a b => iA a ∧ iA b) := by
  refine c_spec_DrawSameItem _ ?_
  unfold p_spec_DrawSameItem
  (repeat' first|refine vs ?_|(refine br ?_ ?_<;>intro _<;>try(exfalso;first|omega|contradiction))|((with_reducible refine g_callf n_spec_l1New ?_);(refine aw_call (s_spec_l1New hs slr_auto) ?_; rintro _ h1 ⟨c, rfl, e1, lc, cu1⟩; have n1 := e1.1; (try simp only [push_n, upd_n] at n1); (try simp only [push_n, upd_n] at lc); have lc2 := cu1.lt))|((with_reducible refine g_callf n_spec_l14Item ?_);(refine aw_call (s_spec_l14Item cur_auto) ?_; rintro _ h2 ⟨d, _, G, rfl, ⟨u, rfl, ru⟩, ou, k2, cu2, hd⟩; have n2 := k2.1; (try simp only [push_n, upd_n] at n2)))|((with_reducible refine g_callf n_spec_l1Once ?_);(refine aw_call (s_spec_l1Once cur_auto (by omega) (by omega)) ?_; rintro _ h2 ⟨b, rfl, k2, cu2⟩; have n2 := k2.1; (try simp only [push_n, upd_n] at n2); cases b))|((with_reducible refine g_callf n_spec_l3Copy ?_);(refine aw_call (s_spec_l3Copy d.s (by have := sA_sz hd.2; omega) _ _ _ ⟨_, rfl, slr_auto⟩) ?_; rintro _ h2 ⟨e2, _, G2, rfl, ⟨w2, rfl, q2⟩, o2⟩; have n2 := e2.1; (try simp only [push_n, upd_n] at n2)))|((with_reducible refine g_idx ?_);((first|refine ix ?_|refine ixi ?_|(refine ixg ?_;intro _ _)|(refine ixgi ?_;intro _ _));first|rintro _ _ _ _ _ ⟨rfl,rfl⟩ _|rintro _ _ _ _ _ ⟨_,rfl,_⟩ _|rintro _ _ _ _ _ ⟨_,_,_,_,rfl,rfl,_,_⟩ _|intro _ _ _ _ _ _ _))|(refine sx ?_;intro _ _)|((with_reducible refine g_awp ?_);simp only [g0,g1,g2]))
  · rename_i d0 _ _ _ _ _ _ _ _ _ _ _ _
    exact ⟨rfl, _, rfl, d0, _, _, d, _, _, rfl, ⟨_, rfl, slr_auto⟩, ol_auto, ⟨_, rfl, slr_auto⟩, ol_auto, exc_auto, by assumption, by assumption⟩
  · exact ⟨rfl, _, rfl, d, _, _, d, _, _, rfl, ⟨_, rfl, slr_auto⟩, ol_auto, ⟨_, rfl, slr_auto⟩, ol_auto, exc_auto, by assumption, by assumption⟩
theorem s_spec_DrawItemsOf {h : AH} {l : List UInt8} {v : AV} {F : List Nat} (hs : l.length ≤ 1048576) (r : SlRep h v l F) : ACalls Try.prog n_spec_DrawItemsOf [v] h (fun u h' => ∃ w xs F n, u = .tup [w, .int .i64 n] ∧ SlRep (α := Itm) h' w xs F ∧ Own h.n h' F ∧ Ext h h' ∧ (xs.length ≤ 10 ∧ ∀ d ∈ xs, iA d) ∧ 0 ≤ n ∧ n < 5) := by
  refine c_spec_DrawItemsOf _ ?_
  unfold p_spec_DrawItemsOf
  refine aw_call (s_spec_l1New hs r) ?_
  rintro _ h1 ⟨c, rfl, e1, lc, cu1⟩
  have lc1 := cu1.lt
  have lc3' : c < h1.n := lc1
  obtain ⟨re, oe⟩ := empty_own (h := h1) (α := Itm) (w := 7) rfl
  refine vs ?_
  refine aw_call (s_spec_l1Below cur_auto (by omega) (by omega)) ?_
  rintro _ h2 ⟨x, rfl, hx0, hx1, k2, cu2⟩
  have n2 := k2.1
  simp only [push_n] at n2
  have re2 := slr_kp1 k2 re (dis_one (nin_one (by omega)))
  have oe2 : Own h1.n h2 [h1.n] := (ol_kp1 k2 (ol_mk (oe h1.n (by omega)) re (Nat.le_refl _)) (dis_one (nin_one (by omega)))).1
  obtain ⟨x, rfl⟩ : ∃ j : Nat, x = (j : Int) := ⟨x.toNat, by omega⟩
  have k12 : Kp h1 h2 [c] := kp_auto
  clear re oe k2
  refine aw_loop (fun n vs h3 => ∃ u xs G, vs = [u, .int .i64 (n : Int)] ∧ xs.length + n ≤ 9 ∧ Kp h1 h3 [c] ∧ Cur h3 c ∧ SlRep h3 u xs G ∧ Own h1.n h3 G ∧ ∀ d ∈ xs, iA d) x ⟨_, [], _, rfl, by simp only [List.length_nil]; omega, k12, cu2, re2, oe2, by simp⟩ ?_
  clear re2 oe2 k12 cu2 n2
  rintro n vs h3 ⟨u, xs, G, rfl, hn, k3, cu3, ru, ou, hd⟩
  have n3 := k3.1
  have lc3 := cu3.lt
  simp only [g0, g1]
  refine br (fun q => ?_) (fun q => ?_)
  · refine vs ?_
    refine aw_call (s_spec_l14Item cu3) ?_
    rintro _ h4 ⟨d, _, G4, rfl, ⟨w, rfl, r4⟩, o4, k4, cu4, hd4⟩
    have n4 := k4.1
    have ru4 : SlRep h4 u xs G := slr_auto
    have ou4 : Own h1.n h4 (G ++ G4) := own_app ol_auto o4 (by omega) (dis_own ru o4 (Nat.le_refl _))
    have kk : Kp h1 h4 [c] := kp_auto
    clear ru k3 k4
    refine vs ?_
    refine app1F (n := h1.n) (a := d) (cs := d.cs w) (G := G4) ru4 ⟨w, rfl, r4⟩ ou4 (by omega) rfl (by omega) (by omega) ?_
    intro u' h5 F' _ k5 r5 o5 w5
    refine vs ?_
    have en : ((n : Int) - 1) = ((n - 1 : Nat) : Int) := by omega
    rw [en]
    refine ⟨n - 1, by omega, _, _, _, rfl, by simp only [List.length_append, List.length_singleton]; omega, kp_stepN k5 kk fun b hb => by have := (ou4.2 b (by simp [hb])).1; omega, cur_kp1 k5 cu4 fun b hb => by have := (ou4.2 b (by simp [hb])).1; omega, r5, o5, fun z hz => ?_⟩
    rcases List.mem_append.1 hz with g | g
    · exact hd z g
    · rw [List.mem_singleton.1 g]; exact hd4
  · refine vs ?_
    refine aw_call (s_spec_l1Below cur_auto (by omega) (by omega)) ?_
    rintro _ h4 ⟨y, rfl, hy0, hy1, k4, cu4⟩
    have n4 := k4.1
    refine vs ?_
    have ou3 : Own h.n h3 G := ou.mono (by omega) fun _ _ => rfl
    exact ⟨rfl, _, rfl, _, _, _, _, rfl, slr_kp1 k4 ru (dis_one (nin_own ou lc3')), (ol_kp1 k4 (ol_mk ou3 ru (Nat.le_refl _)) (dis_one (nin_own ou lc3'))).1, ext_kpc k4 (by omega) (ext_kpc k3 (by omega) e1), ⟨by omega, hd⟩, hy0, hy1⟩
end Go.Proofs.Ytpcgbddmdipfbaa
