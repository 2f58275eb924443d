/- What is drawn: odd numbers, names, attributes and spans of any kind. -/
import Derived.Test.YtpcgbddmdipfbaaW44
set_option linter.unusedSimpArgs false
set_option linter.unusedVariables false
set_option maxHeartbeats 2000000
namespace Go.Proofs.Ytpcgbddmdipfbaa
open Go Go.Ab
section
/- spec.l1Odd -/
def p_spec_l1Odd (x0 : AV) : Prog := .op (.bslice 1 14 z14_418 [(0, 1, AV.int .i64 (-1)), (1, 1, AV.int .i64 0), (2, 1, AV.int .i64 1), (3, 1, AV.int .i64 2), (4, 1, AV.int .i64 255), (5, 1, AV.int .i64 256), (6, 1, AV.int .i64 65535), (7, 1, AV.int .i64 2147483647), (8, 1, AV.int .i64 2147483648), (9, 1, AV.int .i64 4294967295), (10, 1, AV.int .i64 4294967296), (11, 1, AV.int .i64 (-2147483648)), (12, 1, AV.int .i64 9223372036854775807), (13, 1, AV.int .i64 (-9223372036854775808))]) fun v1 => .op (.call n_spec_l1Int [x0, v1]) fun v2 => .fin [.val v2]
theorem c_spec_l1Odd (x0 : AV) : CC Try.prog n_spec_l1Odd [x0] (p_spec_l1Odd x0) := cc Try.func226 [] (fun _ => []) (by kernel_rfl)
/- spec.l1Raw -/
def p_spec_l1Raw (x0 : AV) : Prog := .op (.call n_spec_l1Once [x0, AV.int .i64 2]) fun v1 => .ite v1 (.op (.call n_spec_l1Odd [x0]) fun v2 => .fin [.val v2]) (.op (.bslice 1 10 z10_367 [(0, 1, AV.int .i64 (-2147483648)), (1, 1, AV.int .i64 (-3)), (2, 1, AV.int .i64 (-1)), (3, 1, AV.int .i64 0), (4, 1, AV.int .i64 1), (5, 1, AV.int .i64 3), (6, 1, AV.int .i64 7), (7, 1, AV.int .i64 65536), (8, 1, AV.int .i64 2147483647), (9, 1, AV.int .i64 2147483648)]) fun v3 => .op (.call n_spec_l1Int [x0, v3]) fun v4 => .fin [.val v4])
theorem c_spec_l1Raw (x0 : AV) : CC Try.prog n_spec_l1Raw [x0] (p_spec_l1Raw x0) := cc Try.func211 [] (fun _ => []) (by kernel_rfl)
/- spec.l1Names -/
def p_spec_l1Names (x0 : AV) : Prog := .op (.bslice 1 4 [AV.str ⟨#[]⟩, AV.str ⟨#[]⟩, AV.str ⟨#[]⟩, AV.str ⟨#[]⟩] [(0, 1, AV.str ⟨#[107]⟩), (1, 1, AV.str ⟨#[112, 97, 116, 104]⟩), (2, 1, AV.str ⟨#[99, 111, 100, 101]⟩), (3, 1, AV.str ⟨#[117, 115, 101, 114]⟩)]) fun v1 => .op (.call n_spec_l1Str [x0, v1]) fun v2 => .fin [.val v2]
theorem c_spec_l1Names (x0 : AV) : CC Try.prog n_spec_l1Names [x0] (p_spec_l1Names x0) := cc Try.func238 [] (fun _ => []) (by kernel_rfl)
/- spec.l1AnyName -/
def p_spec_l1AnyName (x0 : AV) : Prog := .op (.call n_spec_l1Once [x0, AV.int .i64 2]) fun v1 => .ite v1 (.op (.call n_spec_l1Names [x0]) fun v2 => .fin [.val v2]) (.op (.bslice 1 8 z8_246 [(0, 1, AV.str ⟨#[]⟩), (1, 1, AV.str ⟨#[75]⟩), (2, 1, AV.str ⟨#[110, 105, 110, 101, 99, 104, 97, 114, 115]⟩), (3, 1, AV.str ⟨#[101, 105, 103, 104, 116, 97, 98, 99]⟩), (4, 1, AV.str ⟨#[97, 32, 98]⟩), (5, 1, AV.str ⟨#[97, 49]⟩), (6, 1, AV.str ⟨#[102, 97, 105, 108, 101, 100]⟩), (7, 1, AV.str ⟨#[102, 97, 105, 108, 101, 100, 120]⟩)]) fun v3 => .op (.call n_spec_l1Str [x0, v3]) fun v4 => .fin [.val v4])
theorem c_spec_l1AnyName (x0 : AV) : CC Try.prog n_spec_l1AnyName [x0] (p_spec_l1AnyName x0) := cc Try.func230 [] (fun _ => []) (by kernel_rfl)
/- spec.l1Plain -/
def p_spec_l1Plain (x0 : AV) : Prog := .op (.call n_spec_l1Once [x0, AV.int .i64 6]) fun v1 => .ite v1 (.op (.bslice 1 7 z7_912 [(0, 1, AV.str ⟨#[]⟩), (1, 1, AV.str ⟨#[34]⟩), (2, 1, AV.str ⟨#[127]⟩), (3, 1, AV.str ⟨#[31]⟩), (4, 1, AV.str ⟨#[116, 119, 101, 110, 116, 121, 32, 98, 121, 116, 101, 115, 32, 97, 114, 101, 32, 104, 101, 114, 101]⟩), (5, 1, AV.str ⟨#[116, 119, 101, 110, 116, 121, 98, 121, 116, 101, 115, 97, 114, 101, 104, 101, 114, 101, 50, 48]⟩), (6, 1, AV.str ⟨#[126, 32]⟩)]) fun v2 => .op (.call n_spec_l1Str [x0, v2]) fun v3 => .fin [.val v3]) (.op (.bslice 1 4 [AV.str ⟨#[]⟩, AV.str ⟨#[]⟩, AV.str ⟨#[]⟩, AV.str ⟨#[]⟩] [(0, 1, AV.str ⟨#[97]⟩), (1, 1, AV.str ⟨#[98]⟩), (2, 1, AV.str ⟨#[111, 107]⟩), (3, 1, AV.str ⟨#[120, 32, 121]⟩)]) fun v4 => .op (.call n_spec_l1Str [x0, v4]) fun v5 => .fin [.val v5])
theorem c_spec_l1Plain (x0 : AV) : CC Try.prog n_spec_l1Plain [x0] (p_spec_l1Plain x0) := cc Try.func231 [] (fun _ => []) (by kernel_rfl)
end
theorem ir_cons {i : Int} {cs : List AV} {P : Int → Prop} (h0 : P i) (h : ∀ x ∈ cs, ∃ i : Int, x = .int .i64 i ∧ P i) : ∀ x ∈ AV.int .i64 i :: cs, ∃ i : Int, x = .int .i64 i ∧ P i := List.forall_mem_cons.2 ⟨⟨i, rfl, h0⟩, h⟩
theorem ints_ofR {h : AH} {P : Int → Prop} : ∀ {cs : List AV}, (∀ x ∈ cs, ∃ i : Int, x = .int .i64 i ∧ P i) → ∃ xs : List Int, Reps h xs cs [] ∧ xs.length = cs.length ∧ ∀ i ∈ xs, P i
  | [], _ => ⟨[], ⟨rfl, rfl⟩, rfl, by simp⟩
  | c :: cs, hc => by
    obtain ⟨xs, r, hl, hx⟩ := ints_ofR (h := h) (cs := cs) fun x hx => hc x (by simp [hx])
    obtain ⟨i, rfl, h0⟩ := hc c (by simp)
    exact ⟨i :: xs, ⟨[.int .i64 i], cs, [], [], rfl, rfl, ⟨rfl, rfl⟩, r⟩, by simp [hl], List.forall_mem_cons.2 ⟨h0, hx⟩⟩
def rgB (x : Int) : Prop := -9223372036854775808 ≤ x ∧ x < 9223372036854775808
theorem rgB_ok {x : Int} (h : rgB x) : Cel.ok x := by obtain ⟨h1, h2⟩ := h; exact ⟨by omega, by omega⟩
theorem irb_auto {cs : List AV} (h : ∀ x ∈ cs, ∃ i : Int, x = .int .i64 i ∧ rgB i := by (repeat (first | exact fun _ h => absurd h List.not_mem_nil | (refine ir_cons ⟨by omega, by omega⟩ ?_)))) : ∀ x ∈ cs, ∃ i : Int, x = .int .i64 i ∧ rgB i := h
theorem sr_spec_l1Int {h : AH} {c b n : Nat} {cs : List AV} (cu : Cur h c) (a : Bk h b cs 1) (hb : ¬ c = b) (hn : cs.length = n) (h0 : 0 < n) (hs : n < 1000) (hx : ∀ x ∈ cs, ∃ i : Int, x = .int .i64 i ∧ rgB i) : ACalls Try.prog n_spec_l1Int [.ptr c 0, .sl b 0 n] h (fun u h' => ∃ x : Int, u = .int .i64 x ∧ rgB x ∧ Kp h h' [c] ∧ Cur h' c) := by
  obtain ⟨xs, r, hl, hx⟩ := ints_ofR (h := h) hx
  refine (s0_spec_l1Int cu (slr_bk a r (by omega) (by omega)) (nin_one hb) (by omega)).mono ?_
  rintro u h' ⟨x, rfl, hm, k, cu⟩
  exact ⟨x, rfl, hx x hm, k, cu⟩
def DrR (h : AH) (c : Nat) : AV → AH → Prop := fun u h' => ∃ x : Int, u = .int .i64 x ∧ rgB x ∧ Kp h h' [c] ∧ Cur h' c
def DrT (h : AH) (c : Nat) : AV → AH → Prop := fun u h' => ∃ x : ByteArray, u = .str x ∧ x.size ≤ 50 ∧ Kp h h' [c] ∧ Cur h' c
theorem s_spec_l1Odd {h : AH} {c : Nat} (cu : Cur h c) : ACalls Try.prog n_spec_l1Odd [.ptr c 0] h (DrR h c) := by
  have lc := cu.lt
  refine c_spec_l1Odd _ ?_
  unfold p_spec_l1Odd
  refine vs ?_
  refine aw_call (sr_spec_l1Int cur_auto bk_auto om_auto (by rfl) (by decide) (by decide) irb_auto) ?_
  rintro _ h2 ⟨x, rfl, hx, k2, cu2⟩
  refine vs ?_
  exact ⟨rfl, _, rfl, _, rfl, hx, kp_auto, cur_auto⟩
theorem s_spec_l1Raw {h : AH} {c : Nat} (cu : Cur h c) : ACalls Try.prog n_spec_l1Raw [.ptr c 0] h (DrR h c) := by
  have lc := cu.lt
  refine c_spec_l1Raw _ ?_
  unfold p_spec_l1Raw
  (repeat' first|refine vs ?_|(refine br ?_ ?_<;>intro _<;>try(exfalso;first|omega|contradiction))|((with_reducible refine g_callf n_spec_l1Once ?_);(refine aw_call (s_spec_l1Once cur_auto (by omega) (by omega)) ?_; rintro _ h2 ⟨b, rfl, k2, cu2⟩; have n2 := k2.1; (try simp only [push_n, upd_n] at n2); cases b))|((with_reducible refine g_callf n_spec_l1Odd ?_);(refine aw_call (s_spec_l1Odd cur_auto) ?_; rintro _ h2 ⟨x, rfl, hx, k2, cu2⟩))|((with_reducible refine g_idx ?_);((first|refine ix ?_|refine ixi ?_|(refine ixg ?_;intro _ _)|(refine ixgi ?_;intro _ _));first|rintro _ _ _ _ _ ⟨rfl,rfl⟩ _|rintro _ _ _ _ _ ⟨_,rfl,_⟩ _|rintro _ _ _ _ _ ⟨_,_,_,_,rfl,rfl,_,_⟩ _|intro _ _ _ _ _ _ _))|(refine sx ?_;intro _ _)|((with_reducible refine g_awp ?_);simp only [g0,g1,g2]))
  · refine aw_call (sr_spec_l1Int cur_auto bk_auto om_auto (by rfl) (by decide) (by decide) irb_auto) ?_
    rintro _ h2 ⟨x, rfl, hx, k2, cu2⟩
    refine vs ?_
    exact ⟨rfl, _, rfl, _, rfl, hx, kp_auto, cur_auto⟩
  · exact ⟨rfl, _, rfl, _, rfl, hx, kp_auto, cur_auto⟩
theorem s_spec_l1Names {h : AH} {c : Nat} (cu : Cur h c) : ACalls Try.prog n_spec_l1Names [.ptr c 0] h (DrT h c) := by
  have lc := cu.lt
  refine c_spec_l1Names _ ?_
  unfold p_spec_l1Names
  (repeat' first|refine vs ?_|(refine br ?_ ?_<;>intro _<;>try(exfalso;first|omega|contradiction))|((with_reducible refine g_callf n_spec_l1Str ?_);(refine aw_call (s_spec_l1Str cur_auto bk_auto om_auto (by rfl) (by decide) (by decide) is_auto) ?_; rintro _ h2 ⟨x, rfl, hx0, k2, cu2⟩; have n2 := k2.1; (try simp only [push_n, upd_n] at n2)))|((with_reducible refine g_idx ?_);((first|refine ix ?_|refine ixi ?_|(refine ixg ?_;intro _ _)|(refine ixgi ?_;intro _ _));first|rintro _ _ _ _ _ ⟨rfl,rfl⟩ _|rintro _ _ _ _ _ ⟨_,rfl,_⟩ _|rintro _ _ _ _ _ ⟨_,_,_,_,rfl,rfl,_,_⟩ _|intro _ _ _ _ _ _ _))|(refine sx ?_;intro _ _)|((with_reducible refine g_awp ?_);simp only [g0,g1,g2]))
  exact ⟨rfl, _, rfl, _, rfl, hx0, kp_auto, cur_auto⟩
theorem s_spec_l1AnyName {h : AH} {c : Nat} (cu : Cur h c) : ACalls Try.prog n_spec_l1AnyName [.ptr c 0] h (DrT h c) := by
  have lc := cu.lt
  refine c_spec_l1AnyName _ ?_
  unfold p_spec_l1AnyName
  (repeat' first|refine vs ?_|(refine br ?_ ?_<;>intro _<;>try(exfalso;first|omega|contradiction))|((with_reducible refine g_callf n_spec_l1Once ?_);(refine aw_call (s_spec_l1Once cur_auto (by omega) (by omega)) ?_; rintro _ h2 ⟨b, rfl, k2, cu2⟩; have n2 := k2.1; (try simp only [push_n, upd_n] at n2); cases b))|((with_reducible refine g_callf n_spec_l1Str ?_);(refine aw_call (s_spec_l1Str cur_auto bk_auto om_auto (by rfl) (by decide) (by decide) is_auto) ?_; rintro _ h2 ⟨x, rfl, hx0, k2, cu2⟩; have n2 := k2.1; (try simp only [push_n, upd_n] at n2)))|((with_reducible refine g_callf n_spec_l1Names ?_);(refine aw_call (s_spec_l1Names cur_auto) ?_; rintro _ h2 ⟨x, rfl, hx0, k2, cu2⟩))|((with_reducible refine g_idx ?_);((first|refine ix ?_|refine ixi ?_|(refine ixg ?_;intro _ _)|(refine ixgi ?_;intro _ _));first|rintro _ _ _ _ _ ⟨rfl,rfl⟩ _|rintro _ _ _ _ _ ⟨_,rfl,_⟩ _|rintro _ _ _ _ _ ⟨_,_,_,_,rfl,rfl,_,_⟩ _|intro _ _ _ _ _ _ _))|(refine sx ?_;intro _ _)|((with_reducible refine g_awp ?_);simp only [g0,g1,g2]))
  all_goals exact ⟨rfl, _, rfl, _, rfl, hx0, kp_auto, cur_auto⟩
theorem s_spec_l1Plain {h : AH} {c : Nat} (cu : Cur h c) : ACalls Try.prog n_spec_l1Plain [.ptr c 0] h (DrT h c) := by
  have lc := cu.lt
  refine c_spec_l1Plain _ ?_
  unfold p_spec_l1Plain
  (repeat' first|refine vs ?_|(refine br ?_ ?_<;>intro _<;>try(exfalso;first|omega|contradiction))|((with_reducible refine g_callf n_spec_l1Once ?_);(refine aw_call (s_spec_l1Once cur_auto (by omega) (by omega)) ?_; rintro _ h2 ⟨b, rfl, k2, cu2⟩; have n2 := k2.1; (try simp only [push_n, upd_n] at n2); cases b))|((with_reducible refine g_callf n_spec_l1Str ?_);(refine aw_call (s_spec_l1Str cur_auto bk_auto om_auto (by rfl) (by decide) (by decide) is_auto) ?_; rintro _ h2 ⟨x, rfl, hx0, k2, cu2⟩; have n2 := k2.1; (try simp only [push_n, upd_n] at n2)))|((with_reducible refine g_idx ?_);((first|refine ix ?_|refine ixi ?_|(refine ixg ?_;intro _ _)|(refine ixgi ?_;intro _ _));first|rintro _ _ _ _ _ ⟨rfl,rfl⟩ _|rintro _ _ _ _ _ ⟨_,rfl,_⟩ _|rintro _ _ _ _ _ ⟨_,_,_,_,rfl,rfl,_,_⟩ _|intro _ _ _ _ _ _ _))|(refine sx ?_;intro _ _)|((with_reducible refine g_awp ?_);simp only [g0,g1,g2]))
  all_goals exact ⟨rfl, _, rfl, _, rfl, hx0, kp_auto, cur_auto⟩
end Go.Proofs.Ytpcgbddmdipfbaa
