/- What is drawn: attributes, spans, deeds. -/
import Derived.Test.YtpcgbddmdipfbaaW43
import Derived.Test.YtpcgbddmdipfbaaK4
import Derived.Test.YtpcgbddmdipfbaaW11
set_option linter.unusedSimpArgs false
set_option linter.unusedVariables false
set_option maxHeartbeats 2000000
namespace Go.Proofs.Ytpcgbddmdipfbaa
open Go Go.Ab
section
/- spec.l2One -/
def p_spec_l2One (x0 x1 : AV) : Prog := .op (.alloc [AV.str ⟨#[]⟩, AV.bool false, AV.int .i64 0, AV.str ⟨#[]⟩]) fun v1 => .op (.call n_spec_l1Once [x0, AV.int .i64 2]) fun v2 => .ite v2 (.op (.bslice 1 5 z5_d15 [(0, 1, AV.int .i64 0), (1, 1, AV.int .i64 1), (2, 1, AV.int .i64 5), (3, 1, AV.int .i64 200), (4, 1, AV.int .i64 500)]) fun v3 => .op (.call n_spec_l1Int [x0, v3]) fun v4 => .op (.build [AV.str ⟨#[]⟩, AV.bool false, AV.int .i64 0, AV.str ⟨#[]⟩] [(0, 1, x1), (1, 1, AV.bool true), (2, 1, v4)]) fun v5 => .op (.st 4 v1 v5) fun v6 => .fin [.cn 4 v1]) (.op (.bslice 1 4 [AV.str ⟨#[]⟩, AV.str ⟨#[]⟩, AV.str ⟨#[]⟩, AV.str ⟨#[]⟩] [(0, 1, AV.str ⟨#[97]⟩), (1, 1, AV.str ⟨#[98]⟩), (2, 1, AV.str ⟨#[111, 107]⟩), (3, 1, AV.str ⟨#[]⟩)]) fun v7 => .op (.call n_spec_l1Str [x0, v7]) fun v8 => .op (.build [AV.str ⟨#[]⟩, AV.bool false, AV.int .i64 0, AV.str ⟨#[]⟩] [(0, 1, x1), (3, 1, v8)]) fun v9 => .op (.st 4 v1 v9) fun v10 => .fin [.cn 4 v1])
theorem c_spec_l2One (x0 x1 : AV) : CC Try.prog n_spec_l2One [x0, x1] (p_spec_l2One x0 x1) := cc Try.func225 [] (fun _ => []) (by kernel_rfl)
/- spec.l2Draw -/
def p_spec_l2Draw (x0 : AV) : Prog := .op (.bslice 4 0 [] []) fun v1 => .op (.bslice 1 5 z5_6d5 [(0, 1, AV.str ⟨#[99, 111, 100, 101]⟩), (1, 1, AV.str ⟨#[102, 97, 105, 108, 101, 100]⟩), (2, 1, AV.str ⟨#[107]⟩), (3, 1, AV.str ⟨#[112, 97, 116, 104]⟩), (4, 1, AV.str ⟨#[117, 115, 101, 114]⟩)]) fun v2 => .op (.len 0 v2) fun v3 => .loop [v1, AV.int .i64 0] (fun vs4 => .op (.bin 0 .lss (g vs4 1) v3) fun v6 => .ite v6 (.op (.idx 1 v2 (g vs4 1)) fun v7 => .op (.ld1 v7) fun v8 => .op (.call n_spec_l1Once [x0, AV.int .i64 4]) fun v9 => .scope (.ite v9 (.op (.call n_spec_l2One [x0, v8]) fun v10 => .op (.bslice 4 1 [AV.str ⟨#[]⟩, AV.bool false, AV.int .i64 0, AV.str ⟨#[]⟩] [(0, 4, v10)]) fun v11 => .op (.app 4 48 (g vs4 0) v11) fun v12 => .leaf 0 [v12]) (.leaf 0 [g vs4 0])) (fun vs13 => .op (.bin 0 .add (g vs4 1) (AV.int .i64 1)) fun v15 => .leaf 0 [g vs13 0, v15]) fun t14 vs13 => tsel t14 1 (.leaf 1 vs13) .bad) (.leaf 2 [g vs4 0, g vs4 1])) fun t5 vs4 => tsel t5 1 (.leaf 1 vs4) (tsel t5 2 (.fin [.val (g vs4 0)]) .bad)
theorem c_spec_l2Draw (x0 : AV) : CC Try.prog n_spec_l2Draw [x0] (p_spec_l2Draw x0) := cc Try.func210 [0, 3, 7, 8, 9] (fun _ => []) (by kernel_rfl)
/- spec.l3Draw -/
def p_spec_l3Draw (x0 : AV) : Prog := .op (.alloc z6_822) fun v1 => .op (.call n_spec_l1Below [x0, AV.int .i64 5]) fun v2 => .op (.bin 0 .add (AV.int .i64 1) v2) fun v3 => .op (.call n_spec_l1Below [x0, AV.int .i64 9]) fun v4 => .op (.bin 0 .add (AV.int .i64 1) v4) fun v5 => .op (.call n_spec_l1Below [x0, AV.int .i64 9]) fun v6 => .op (.call n_spec_l1Once [x0, AV.int .i64 4]) fun v7 => .op (.call n_spec_l2Draw [x0]) fun v8 => .op (.build z6_822 [(0, 1, v3), (1, 1, v5), (2, 1, v6), (4, 1, v7), (5, 1, v8)]) fun v9 => .op (.alloc z6_822) fun v10 => .op (.st 6 v10 v9) fun v11 => .op (.fad 2 v10) fun v12 => .op (.ld1 v12) fun v13 => .op (.bslice 1 4 [AV.int .i64 0, AV.int .i64 0, AV.int .i64 0, AV.int .i64 0] [(0, 1, AV.int .i64 0), (1, 1, AV.int .i64 1), (2, 1, AV.int .i64 5), (3, 1, AV.int .i64 20)]) fun v14 => .op (.call n_spec_l1Int [x0, v14]) fun v15 => .chk (.ld1 v12) v13 (.op (.bin 0 .add v13 v15) fun v16 => .op (.fad 3 v10) fun v17 => .op (.st 1 v17 v16) fun v18 => .op (.ldn 6 v10) fun v19 => .op (.st 6 v1 v19) fun v20 => .fin [.cn 6 v1])
theorem c_spec_l3Draw (x0 : AV) : CC Try.prog n_spec_l3Draw [x0] (p_spec_l3Draw x0) := cc Try.func167 [] (fun r => if r = 2 then [(0, []), (1, []), (2, []), (3, []), (4, [1]), (5, []), (6, []), (7, [])] else []) (by kernel_rfl)
end
theorem szs_le {α : Type} [Sz α] {m : Nat} : ∀ {l : List α}, (∀ x ∈ l, Sz.sz x ≤ m) → szs l ≤ l.length * m
  | [], _ => by simp [szs]
  | x :: l, h => by
    have := szs_le (l := l) fun y hy => h y (by simp [hy])
    have := h x (by simp)
    simp only [szs, List.length_cons, Nat.add_mul, Nat.one_mul]; omega
theorem rg {x : Int} (h0 : -4000000000 ≤ x) (h1 : x ≤ 4000000000) : Cel.ok x := ⟨by omega, by omega⟩
theorem okS {s : ByteArray} (h : s.size ≤ 1000) : Cel.ok s := Nat.le_trans h (by decide)
/-- What is small. -/
def aD (x : Attr) : Prop := Cel.ok x ∧ Sz.sz x ≤ 100
def asD (l : List Attr) : Prop := l.length ≤ 6 ∧ ∀ x ∈ l, aD x
theorem asD_sz {l : List Attr} (h : asD l) : szs l ≤ 600 := by
  have := szs_le (m := 100) fun x hx => (h.2 x hx).2
  have := h.1
  omega
def mi (k x : Int) : Prop := -k ≤ x ∧ x ≤ k
def sD (x : Span) : Prop := (mi 2000000 x.trace ∧ mi 2000000 x.id ∧ mi 2000000 x.start ∧ mi 4000000 x.fin) ∧ asD x.attrs
theorem sD_ok {x : Span} (h : sD x) : Cel.ok x := by
  obtain ⟨⟨h1, h2, h3, h4⟩, h5⟩ := h
  unfold mi at h1 h2 h3 h4
  exact ⟨rg (by omega) (by omega), rg (by omega) (by omega), rg (by omega) (by omega), rg (by omega) (by omega), fun a ha => (h5.2 a ha).1⟩
theorem sD_sz {x : Span} (h : sD x) : Sz.sz x ≤ 606 := by
  have h1 := asD_sz h.2
  have h2 := h.2.1
  show x.attrs.length + szs x.attrs ≤ 606
  omega
theorem s_spec_l2One {h : AH} {c : Nat} {s : ByteArray} (cu : Cur h c) (hs : s.size ≤ 50) : ACalls Try.prog n_spec_l2One [.ptr c 0, .str s] h (DrX Attr h c aD) := by
  have lc := cu.lt
  refine c_spec_l2One _ _ ?_
  unfold p_spec_l2One
  (repeat' first|refine vs ?_|(refine br ?_ ?_<;>intro _<;>try(exfalso;first|omega|contradiction))|((with_reducible refine g_callf n_spec_l1Once ?_);(refine aw_call (s_spec_l1Once cur_auto (by omega) (by omega)) ?_; rintro _ h2 ⟨b, rfl, k2, cu2⟩; have n2 := k2.1; (try simp only [push_n, upd_n] at n2); cases b))|((with_reducible refine g_callf n_spec_l1Int ?_);(refine aw_call (s_spec_l1Int cur_auto bk_auto om_auto (by rfl) (by decide) (by decide) iv_auto) ?_; rintro _ h2 ⟨x, rfl, hx0, hx1, k2, cu2⟩; have n2 := k2.1; (try simp only [push_n, upd_n] at n2)))|((with_reducible refine g_callf n_spec_l1Str ?_);(refine aw_call (s_spec_l1Str cur_auto bk_auto om_auto (by rfl) (by decide) (by decide) is_auto) ?_; rintro _ h2 ⟨x, rfl, hx0, k2, cu2⟩; have n2 := k2.1; (try simp only [push_n, upd_n] at n2)))|((with_reducible refine g_idx ?_);((first|refine ix ?_|refine ixi ?_|(refine ixg ?_;intro _ _)|(refine ixgi ?_;intro _ _));first|rintro _ _ _ _ _ ⟨rfl,rfl⟩ _|rintro _ _ _ _ _ ⟨_,rfl,_⟩ _|rintro _ _ _ _ _ ⟨_,_,_,_,rfl,rfl,_,_⟩ _|intro _ _ _ _ _ _ _))|(refine sx ?_;intro _ _)|((with_reducible refine g_awp ?_);simp only [g0,g1,g2]))
  · exact ⟨rfl, _, rfl, ⟨s, false, 0, x⟩, _, [], rfl, ⟨rfl, rfl⟩, Own.nil, kp_auto, cur_auto, ⟨okS (s := s) (by omega), rg (x := 0) (by omega) (by omega), okS (s := x) (by omega)⟩, by show s.size + x.size ≤ 100; omega⟩
  · exact ⟨rfl, _, rfl, ⟨s, true, x, ⟨#[]⟩⟩, _, [], rfl, ⟨rfl, rfl⟩, Own.nil, kp_auto, cur_auto, ⟨okS (s := s) (by omega), rg (x := x) (by omega) (by omega), okS (s := ⟨#[]⟩) (by decide)⟩, by show s.size + 0 ≤ 100; omega⟩
theorem s_spec_l2Draw {h : AH} {c : Nat} (cu : Cur h c) : ACalls Try.prog n_spec_l2Draw [.ptr c 0] h (DrS Attr h c asD) := by
  have lc := cu.lt
  refine c_spec_l2Draw _ ?_
  unfold p_spec_l2Draw
  obtain ⟨re, oe⟩ := empty_own (h := h) (α := Attr) (w := 4) rfl
  obtain ⟨ks, rk, hl, hk⟩ := strs_of (h := h.push ⟨[], 4, 0⟩) (cs := [AV.str ⟨#[99, 111, 100, 101]⟩, AV.str ⟨#[102, 97, 105, 108, 101, 100]⟩, AV.str ⟨#[107]⟩, AV.str ⟨#[112, 97, 116, 104]⟩, AV.str ⟨#[117, 115, 101, 114]⟩]) is_auto
  have rk := slrep_push hl (by decide) rk
  simp only [List.length_cons, List.length_nil, Nat.zero_add, Nat.reduceAdd] at hl rk
  refine vs ?_
  refine aw_upto ks.length (fun i vs h1 => ∃ u l G, vs = [u, .int .i64 (i : Int)] ∧ i ≤ ks.length ∧ Kp h h1 [c] ∧ Cur h1 c ∧ SlRep h1 u l G ∧ Own h.n h1 G ∧ h.n + 1 ∉ G ∧ SlRep h1 (.sl (h.n + 1) 0 5) ks [h.n + 1] ∧ l.length ≤ i ∧ ∀ x ∈ l, aD x) ⟨_, [], [h.n], rfl, Nat.zero_le _, kp_auto, cur_auto, slr_push1 re, (oe h.n (Nat.le_refl _)).ext ((Ext.refl _).push _) (by simp), by simp, rk, Nat.le_refl _, by simp⟩ ?_
  clear re oe rk
  rintro i vs h1 _ ⟨u, l, G, rfl, hi, k1, cu1, ru, ou, hG, rk, hll, hla⟩
  have n1 := k1.1
  have lc1 := cu1.lt
  simp only [g0, g1]
  (repeat' first|refine vs ?_|(refine br ?_ ?_<;>intro _<;>try(exfalso;first|omega|contradiction))|((with_reducible refine g_callf n_spec_l1Once ?_);(refine aw_call (s_spec_l1Once cur_auto (by omega) (by omega)) ?_; rintro _ h2 ⟨b, rfl, k2, cu2⟩; have n2 := k2.1; (try simp only [push_n, upd_n] at n2); cases b))|((with_reducible refine g_idx ?_);((first|refine ix ?_|refine ixi ?_|(refine ixg ?_;intro _ _)|(refine ixgi ?_;intro _ _));first|rintro _ _ _ _ _ ⟨rfl,rfl⟩ _|rintro _ _ _ _ _ ⟨_,rfl,_⟩ _|rintro _ _ _ _ _ ⟨_,_,_,_,rfl,rfl,_,_⟩ _|intro _ _ _ _ _ _ _))|(refine sx ?_;intro _ _)|((with_reducible refine g_awp ?_);simp only [g0,g1,g2]))
  · exact ⟨by omega, _, _, _, rfl, by omega, kp_auto, cu2, slr_auto, ol_auto, hG, slr_kp1 k2 rk (dis_one (nin_one (by omega))), by omega, hla⟩
  · rename_i x hx _ _ _ _
    have hxs := hk x (List.mem_of_getElem? hx)
    refine aw_call (s_spec_l2One cur_auto hxs) ?_
    rintro _ h3 ⟨y, _, _, rfl, ⟨rfl, rfl⟩, -, k3, cu3, hy⟩
    have n3 := k3.1
    refine vs ?_
    have ru3 : SlRep h3 u l G := slr_auto
    have ou3 : Own h.n h3 G := ol_auto
    have rk3 : SlRep h3 (.sl (h.n + 1) 0 5) ks [h.n + 1] := slr_kp1 k3 (slr_kp1 k2 rk (dis_one (nin_one (by omega)))) (dis_one (nin_one (by omega)))
    have kk3 : Kp h h3 [c] := kp_auto
    clear k3 ru ou rk k2 k1
    refine app1F (n := h.n) (a := y) (cs := y.cs) (G := []) ru3 ⟨rfl, rfl⟩ (by rw [List.append_nil]; exact ou3) (by omega) rfl (by omega) (by omega) ?_
    intro u' h4 F' _ k4 r4 o4 w4
    have n4 := k4.1
    (try simp only [push_n] at n4)
    refine vs ?_
    refine ⟨by omega, _, _, _, rfl, by omega, kp_stepN k4 kk3 fun b hb => (ou3.2 b hb).1, cur_kp1 k4 cu3 fun b hb => by have := (ou3.2 b hb).1; omega, r4, o4, ?_, slr_kp1 k4 rk3 (fun b hb hm => hG (List.mem_singleton.1 hb ▸ hm)), by simp only [List.length_append, List.length_singleton]; omega, ?_⟩
    · intro hm
      rcases w4 _ hm with q | q | q
      · exact hG q
      · exact absurd q List.not_mem_nil
      · have := rk3.lt _ (List.mem_singleton.2 rfl); omega
    · intro z hz
      rcases List.mem_append.1 hz with q | q
      · exact hla z q
      · rw [List.mem_singleton.1 q]; exact hy
  · exact ⟨rfl, _, rfl, _, _, ru, ou, k1, cu1, by omega, hla⟩
theorem s_spec_l3Draw {h : AH} {c : Nat} (cu : Cur h c) : ACalls Try.prog n_spec_l3Draw [.ptr c 0] h (DrX Span h c sD) := by
  have lc := cu.lt
  refine c_spec_l3Draw _ ?_
  unfold p_spec_l3Draw
  (repeat' first|refine vs ?_|(refine br ?_ ?_<;>intro _<;>try(exfalso;first|omega|contradiction))|((with_reducible refine g_callf n_spec_l1Below ?_);(refine aw_call (s_spec_l1Below cur_auto (by omega) (by omega)) ?_; rintro _ h2 ⟨x, rfl, hx0, hx1, k2, cu2⟩; have n2 := k2.1; (try simp only [push_n, upd_n] at n2)))|((with_reducible refine g_callf n_spec_l1Once ?_);(refine aw_call (s_spec_l1Once cur_auto (by omega) (by omega)) ?_; rintro _ h2 ⟨b, rfl, k2, cu2⟩; have n2 := k2.1; (try simp only [push_n, upd_n] at n2)))|((with_reducible refine g_callf n_spec_l1Int ?_);(refine aw_call (s_spec_l1Int cur_auto bk_auto om_auto (by rfl) (by decide) (by decide) iv_auto) ?_; rintro _ h2 ⟨x, rfl, hx0, hx1, k2, cu2⟩; have n2 := k2.1; (try simp only [push_n, upd_n] at n2)))|((with_reducible refine g_callf n_spec_l2Draw ?_);(refine aw_call (s_spec_l2Draw cur_auto) ?_; rintro u h2 ⟨l, G, ru, ou, k2, cu2, hl⟩; have n2 := k2.1; (try simp only [push_n, upd_n] at n2);))|((with_reducible refine g_idx ?_);((first|refine ix ?_|refine ixi ?_|(refine ixg ?_;intro _ _)|(refine ixgi ?_;intro _ _));first|rintro _ _ _ _ _ ⟨rfl,rfl⟩ _|rintro _ _ _ _ _ ⟨_,rfl,_⟩ _|rintro _ _ _ _ _ ⟨_,_,_,_,rfl,rfl,_,_⟩ _|intro _ _ _ _ _ _ _))|(refine sx ?_;intro _ _)|((with_reducible refine g_awp ?_);simp only [g0,g1,g2]))
  exact ⟨rfl, _, rfl, ⟨_, _, _, _, _, l⟩, _, _, rfl, ⟨u, rfl, slr_auto⟩, ol_auto, kp_auto, cur_auto, ⟨by dsimp only [mi]; omega, hl⟩⟩
end Go.Proofs.Ytpcgbddmdipfbaa
