
/- Rules: copies, comparisons, sizes; what is the same. -/
import Derived.Test.YtienckhjfcplcaaW4
set_option linter.unusedSimpArgs false
set_option linter.unusedVariables false
set_option maxHeartbeats 1000000
namespace Go.Proofs.Ytienckhjfcplcaa
open Go Go.Ab
section
/- laws.toPol -/
def p_laws_toPol (x0 : AV) : Prog := .op (.box x0) fun v => .op (.alloc [AV.int .i64 0, AV.int .i64 0, AV.str ⟨#[]⟩, AV.str ⟨#[]⟩, AV.nils]) fun v_1 => .op (.alloc [AV.int .i64 0, AV.int .i64 0, AV.str ⟨#[]⟩, AV.str ⟨#[]⟩, AV.nils]) fun v_2 => .op (.fad 0 v) fun v_3 => .op (.ld1 v_3) fun v_4 => .op (.fad 0 v_2) fun v_5 => .op (.st 1 v_5 v_4) fun v_6 => .op (.fad 1 v) fun v_7 => .op (.ld1 v_7) fun v_8 => .op (.fad 1 v_2) fun v_9 => .op (.st 1 v_9 v_8) fun v_10 => .op (.fad 2 v) fun v_11 => .op (.ld1 v_11) fun v_12 => .op (.fad 2 v_2) fun v_13 => .op (.st 1 v_13 v_12) fun v_14 => .op (.fad 3 v) fun v_15 => .op (.ld1 v_15) fun v_16 => .op (.fad 3 v_2) fun v_17 => .op (.st 1 v_17 v_16) fun v_18 => .op (.fad 4 v) fun v => .op (.ld1 v) fun v => .op (.call n_laws_toPolS [v]) fun v => .op (.fad 4 v_2) fun v_19 => .op (.st 1 v_19 v) fun v => .op (.ldn 5 v_2) fun v => .op (.st 5 v_1 v) fun v => .fin [.cn 5 v_1]
theorem c_laws_toPol (x0 : AV) {h : AH} {R : AV → AH → Prop} (g : (p_laws_toPol x0).awp Try.prog h fun t vs h' => t = 1 ∧ ∃ v, vs = [v] ∧ R v h') : ACalls Try.prog n_laws_toPol [x0] h R :=
  acalls_of follows Try.func74 (by kernel_rfl) (by kernel_rfl) [] (fun _ => []) (show trF Try.prog Try.f74 _ _ [x0] = p_laws_toPol x0 by kernel_rfl) g
/- laws.eqPol -/
def p_laws_eqPol (x0 x1 : AV) : Prog := .op (.box x0) fun v => .op (.box x1) fun v_1 => .op (.fad 0 v) fun v_2 => .op (.ld1 v_2) fun v_3 => .op (.fad 0 v_1) fun v_4 => .op (.ld1 v_4) fun v_5 => .op (.bin 0 .neq v_3 v_5) fun v_6 => .ite v_6 (.fin [.val (AV.bool false)]) (.op (.fad 1 v) fun v_7 => .op (.ld1 v_7) fun v_8 => .op (.fad 1 v_1) fun v_9 => .op (.ld1 v_9) fun v_10 => .op (.bin 0 .neq v_8 v_10) fun v_11 => .ite v_11 (.fin [.val (AV.bool false)]) (.op (.fad 2 v) fun v_12 => .op (.ld1 v_12) fun v_13 => .op (.fad 2 v_1) fun v_14 => .op (.ld1 v_14) fun v_15 => .op (.bin 1 .neq v_13 v_15) fun v_16 => .ite v_16 (.fin [.val (AV.bool false)]) (.op (.fad 3 v) fun v_17 => .op (.ld1 v_17) fun v_18 => .op (.fad 3 v_1) fun v_19 => .op (.ld1 v_19) fun v_20 => .op (.bin 1 .neq v_18 v_20) fun v_21 => .ite v_21 (.fin [.val (AV.bool false)]) (.op (.fad 4 v) fun v => .op (.ld1 v) fun v => .op (.fad 4 v_1) fun v_22 => .op (.ld1 v_22) fun v_23 => .op (.call n_laws_eqPolS [v, v_23]) fun v => .op (.una .not v) fun v => .ite v (.fin [.val (AV.bool false)]) (.fin [.val (AV.bool true)])))))
theorem c_laws_eqPol (x0 x1 : AV) {h : AH} {R : AV → AH → Prop} (g : (p_laws_eqPol x0 x1).awp Try.prog h fun t vs h' => t = 1 ∧ ∃ v, vs = [v] ∧ R v h') : ACalls Try.prog n_laws_eqPol [x0, x1] h R :=
  acalls_of follows Try.func77 (by kernel_rfl) (by kernel_rfl) [] (fun _ => []) (show trF Try.prog Try.f77 _ _ [x0, x1] = p_laws_eqPol x0 x1 by kernel_rfl) g
/- laws.szPol -/
def p_laws_szPol (x0 x1 : AV) : Prog := .op (.box x0) fun v => .op (.fad 2 v) fun v_1 => .op (.ld1 v_1) fun v_2 => .op (.len 1 v_2) fun v_3 => .op (.bin 0 .sub x1 v_3) fun v_4 => .op (.bin 0 .lss v_4 (AV.int .i64 0)) fun v_5 => .ite v_5 (.fin [.val (AV.int .i64 (-1))]) (.op (.fad 3 v) fun v_6 => .op (.ld1 v_6) fun v_7 => .op (.len 1 v_7) fun v_8 => .op (.bin 0 .sub v_4 v_8) fun v_9 => .op (.bin 0 .lss v_9 (AV.int .i64 0)) fun v_10 => .ite v_10 (.fin [.val (AV.int .i64 (-1))]) (.op (.fad 4 v) fun v => .op (.ld1 v) fun v => .op (.call n_laws_szPolS [v, v_9]) fun v => .op (.bin 0 .lss v (AV.int .i64 0)) fun v_11 => .ite v_11 (.fin [.val (AV.int .i64 (-1))]) (.fin [.val v])))
theorem c_laws_szPol (x0 x1 : AV) {h : AH} {R : AV → AH → Prop} (g : (p_laws_szPol x0 x1).awp Try.prog h fun t vs h' => t = 1 ∧ ∃ v, vs = [v] ∧ R v h') : ACalls Try.prog n_laws_szPol [x0, x1] h R :=
  acalls_of follows Try.func71 (by kernel_rfl) (by kernel_rfl) [] (fun _ => []) (show trF Try.prog Try.f71 _ _ [x0, x1] = p_laws_szPol x0 x1 by kernel_rfl) g
/- laws.toPolS -/
def p_laws_toPolS (x0 : AV) : Prog := .op (.len 0 x0) fun v => .op (.mksl 5 72 [AV.int .i64 0, AV.int .i64 0, AV.str ⟨#[]⟩, AV.str ⟨#[]⟩, AV.nils] v v) fun v => .loop [AV.int .i64 0] (fun vs => .op (.len 0 x0) fun v_1 => .op (.bin 0 .lss (g vs 0) v_1) fun v_2 => .ite v_2 (.op (.idx 5 x0 (g vs 0)) fun v_3 => .op (.ldn 5 v_3) fun v_4 => .op (.call n_laws_toPol [v_4]) fun v_5 => .op (.idx 5 v (g vs 0)) fun v => .op (.st 5 v v_5) fun v => .op (.bin 0 .add (g vs 0) (AV.int .i64 1)) fun v => .leaf 0 [v]) (.leaf 2 [g vs 0])) fun t vs => tsel t 1 (.leaf 1 vs) (tsel t 2 (.fin [.val v]) .bad)
theorem c_laws_toPolS (x0 : AV) {h : AH} {R : AV → AH → Prop} (g : (p_laws_toPolS x0).awp Try.prog h fun t vs h' => t = 1 ∧ ∃ v, vs = [v] ∧ R v h') : ACalls Try.prog n_laws_toPolS [x0] h R :=
  acalls_of follows Try.func126 (by kernel_rfl) (by kernel_rfl) [0, 3, 4] (fun _ => []) (show trF Try.prog Try.f126 _ _ [x0] = p_laws_toPolS x0 by kernel_rfl) g
/- laws.eqPolS -/
def p_laws_eqPolS (x0 x1 : AV) : Prog := .op (.len 0 x0) fun v => .op (.len 0 x1) fun v_1 => .op (.bin 0 .neq v v_1) fun v => .ite v (.fin [.val (AV.bool false)]) (.loop [AV.int .i64 0] (fun vs => .op (.len 0 x0) fun v => .op (.bin 0 .lss (g vs 0) v) fun v => .ite v (.op (.idx 5 x0 (g vs 0)) fun v => .op (.ldn 5 v) fun v => .op (.idx 5 x1 (g vs 0)) fun v_2 => .op (.ldn 5 v_2) fun v_3 => .op (.call n_laws_eqPol [v, v_3]) fun v => .op (.una .not v) fun v => .ite v (.fin [.val (AV.bool false)]) (.op (.bin 0 .add (g vs 0) (AV.int .i64 1)) fun v => .leaf 0 [v])) (.leaf 2 [g vs 0])) fun t vs => tsel t 1 (.leaf 1 vs) (tsel t 2 (.fin [.val (AV.bool true)]) .bad))
theorem c_laws_eqPolS (x0 x1 : AV) {h : AH} {R : AV → AH → Prop} (g : (p_laws_eqPolS x0 x1).awp Try.prog h fun t vs h' => t = 1 ∧ ∃ v, vs = [v] ∧ R v h') : ACalls Try.prog n_laws_eqPolS [x0, x1] h R :=
  acalls_of follows Try.func128 (by kernel_rfl) (by kernel_rfl) [0, 1, 5] (fun r => if r = 6 then [(0, []), (1, []), (2, []), (3, []), (4, []), (5, []), (6, []), (7, []), (8, []), (9, [])] else []) (show trF Try.prog Try.f128 _ _ [x0, x1] = p_laws_eqPolS x0 x1 by kernel_rfl) g
/- laws.szPolS -/
def p_laws_szPolS (x0 x1 : AV) : Prog := .op (.len 0 x0) fun v => .op (.bin 0 .sub x1 v) fun v => .op (.bin 0 .lss v (AV.int .i64 0)) fun v_1 => .ite v_1 (.fin [.val (AV.int .i64 (-1))]) (.loop [v, AV.int .i64 0] (fun vs => .op (.len 0 x0) fun v => .op (.bin 0 .lss (g vs 1) v) fun v => .ite v (.op (.idx 5 x0 (g vs 1)) fun v => .op (.ldn 5 v) fun v => .op (.call n_laws_szPol [v, g vs 0]) fun v => .op (.bin 0 .lss v (AV.int .i64 0)) fun v_2 => .ite v_2 (.fin [.val (AV.int .i64 (-1))]) (.op (.bin 0 .add (g vs 1) (AV.int .i64 1)) fun v_3 => .leaf 0 [v, v_3])) (.leaf 2 [g vs 0, g vs 1])) fun t vs => tsel t 1 (.leaf 1 vs) (tsel t 2 (.fin [.val (g vs 0)]) .bad))
theorem c_laws_szPolS (x0 x1 : AV) {h : AH} {R : AV → AH → Prop} (g : (p_laws_szPolS x0 x1).awp Try.prog h fun t vs h' => t = 1 ∧ ∃ v, vs = [v] ∧ R v h') : ACalls Try.prog n_laws_szPolS [x0, x1] h R :=
  acalls_of follows Try.func123 (by kernel_rfl) (by kernel_rfl) [0, 1, 5] (fun _ => []) (show trF Try.prog Try.f123 _ _ [x0, x1] = p_laws_szPolS x0 x1 by kernel_rfl) g
end
theorem pol_lt {x y : Pol} (h : y ∈ x.l) : SizeOf.sizeOf y < SizeOf.sizeOf x := by
  cases x with
  | mk k n s t l =>
    have := List.sizeOf_lt_of_mem (show y ∈ l from h)
    simp only [Pol.mk.sizeOf_spec]; omega
theorem pol_ind {p : Pol → Prop} (step : ∀ x, (∀ y ∈ x.l, p y) → p x) : ∀ x, p x := fun x =>
  step x fun y hy => pol_ind step y
termination_by x => SizeOf.sizeOf x
decreasing_by exact pol_lt hy

theorem toPols {xs : List Pol} (hc : ∀ x ∈ xs, CopyX Pol Try.prog n_laws_toPol x) (hs : xs.length + szs xs ≤ 1048576) : CopyL Try.prog n_laws_toPolS xs := by
  intro v F h r
  refine c_laws_toPolS _ (toSx_spec rfl rfl rfl hc r ?_)
  omega
theorem s_laws_toPol (x : Pol) : Sz.sz x ≤ 1048576 → CopyX Pol Try.prog n_laws_toPol x := by
  refine pol_ind (p := fun x => Sz.sz x ≤ 1048576 → CopyX Pol Try.prog n_laws_toPol x) ?_ x
  intro x ih hs cs F h r
  rw [Pol.sz_eq] at hs
  rw [Pol.rep_iff] at r
  obtain ⟨v0, rfl, r0⟩ := r
  have hc := toPols (xs := x.l) (fun y hy => ih y hy (by have := szs_mem hy; omega)) (by omega)
  refine c_laws_toPol _ ?_
  unfold p_laws_toPol
  have s_laws_toPolS := hc
  (repeat' first|refine vs ?_|(refine br ?_ ?_<;>intro _<;>try(exfalso;first|omega|contradiction))|((with_reducible refine g_callf n_laws_toPolS ?_);(refine aw_call (s_laws_toPolS _ _ _ slr_auto) ?_; rintro _ _ ⟨e_, _, _, _⟩; have n_ := e_.1; (try simp only [push_n, upd_n] at n_)))|((with_reducible refine g_idx ?_);((first|refine ix ?_|refine ixi ?_|(refine ixg ?_;intro _ _)|(refine ixgi ?_;intro _ _));first|rintro _ _ _ _ _ ⟨rfl,rfl⟩ _|rintro _ _ _ _ _ ⟨_,rfl,_⟩ _|rintro _ _ _ _ _ ⟨_,_,_,_,rfl,rfl,_,_⟩ _|intro _ _ _ _ _ _ _))|(refine sx ?_;intro _ _)|((with_reducible refine g_awp ?_);simp only [g0,g1,g2]))
  exact ⟨rfl, _, rfl, ext_auto, _, _, rfl, Pol.rep_iff.2 ⟨_, rfl, slr_auto⟩, ol_auto⟩
theorem s_laws_toPolS (xs : List Pol) (hs : xs.length + szs xs ≤ 1048576) : CopyL Try.prog n_laws_toPolS xs := toPols (fun x hx => s_laws_toPol x (by have := szs_mem hx; omega)) hs

theorem eqPols {xs : List Pol} (hc : ∀ x ∈ xs, EqX Pol Try.prog n_laws_eqPol x) (v v' : AV) (F F' : List Nat) (h : AH) (r : SlRep h v xs F) (r' : SlRep h v' xs F') : RCalls Try.prog n_laws_eqPolS [v, v'] h (.bool true) :=
  reader (c_laws_eqPolS _ _) (by simp only [old]) (eqSx_spec rfl hc r r')
theorem s_laws_eqPol : EqC Pol Try.prog n_laws_eqPol := by
  refine pol_ind ?_
  intro x ih cs cs' F F' h r r'
  rw [Pol.rep_iff] at r r'
  obtain ⟨v0, rfl, r0⟩ := r
  obtain ⟨u0, rfl, q0⟩ := r'
  have s_laws_eqPolS := eqPols ih
  refine reader (c_laws_eqPol _ _) (by simp only [old]) ?_
  unfold p_laws_eqPol
  (repeat' first|refine vs ?_|(refine br ?_ ?_<;>intro _<;>try(exfalso;first|omega|contradiction))|((with_reducible refine g_callf n_laws_eqPolS ?_);refine aw_rcall (s_laws_eqPolS _ _ _ _ _ slr_auto slr_auto) ?_)|((with_reducible refine g_idx ?_);((first|refine ix ?_|refine ixi ?_|(refine ixg ?_;intro _ _)|(refine ixgi ?_;intro _ _));first|rintro _ _ _ _ _ ⟨rfl,rfl⟩ _|rintro _ _ _ _ _ ⟨_,rfl,_⟩ _|rintro _ _ _ _ _ ⟨_,_,_,_,rfl,rfl,_,_⟩ _|intro _ _ _ _ _ _ _))|(refine sx ?_;intro _ _)|((with_reducible refine g_awp ?_);simp only [g0,g1,g2]))
  exact pb rfl
theorem s_laws_eqPolS : EqS Pol Try.prog n_laws_eqPolS := fun xs v v' F F' h r r' => eqPols (fun x _ => s_laws_eqPol x) v v' F F' h r r'

theorem szPols {xs : List Pol} (hc : ∀ x ∈ xs, SzX Pol Try.prog n_laws_szPol x) (ok : ∀ x ∈ xs, Cel.ok x) (v : AV) (F : List Nat) (b : Int) (h : AH) (r : SlRep h v xs F) (h0 : 0 ≤ b) (h1 : b ≤ 1048576) : RCalls Try.prog n_laws_szPolS [v, .int .i64 b] h (.int .i64 (szr b (xs.length + szs xs))) :=
  reader (c_laws_szPolS _ _) (by simp only [old]) (szSx_spec rfl hc ok r h0 h1)
theorem s_laws_szPol : SzC Pol Try.prog n_laws_szPol := by
  refine pol_ind ?_
  intro x ih ok cs F b h r h0 h1
  have hS := Pol.sz_eq x
  rw [Pol.rep_iff] at r
  obtain ⟨v0, rfl, r0⟩ := r
  have okl : ∀ y ∈ x.l, Cel.ok y := by
    cases x with
    | mk k n s t l => exact Pol.oks_iff.1 ok.2.2.2.2
  have ok1 : x.key.size ≤ 9223372036854775807 := by cases x with
    | mk k n s t l => exact ok.2.2.1
  have ok2 : x.text.size ≤ 9223372036854775807 := by cases x with
    | mk k n s t l => exact ok.2.2.2.1
  have s_laws_szPolS := szPols ih okl
  refine reader (c_laws_szPol _ _) (by simp only [old]) ?_
  unfold p_laws_szPol
  (repeat' first|refine vs ?_|(refine br ?_ ?_<;>intro _<;>try(exfalso;first|omega|contradiction))|((with_reducible refine g_callf n_laws_szPolS ?_);(refine aw_sz (s_laws_szPolS _ _ _ _ slr_auto om_auto om_auto) (fun _ => ?_) (fun _ => ?_)))|((with_reducible refine g_idx ?_);((first|refine ix ?_|refine ixi ?_|(refine ixg ?_;intro _ _)|(refine ixgi ?_;intro _ _));first|rintro _ _ _ _ _ ⟨rfl,rfl⟩ _|rintro _ _ _ _ _ ⟨_,rfl,_⟩ _|rintro _ _ _ _ _ ⟨_,_,_,_,rfl,rfl,_,_⟩ _|intro _ _ _ _ _ _ _))|(refine sx ?_;intro _ _)|((with_reducible refine g_awp ?_);simp only [g0,g1,g2]))
  all_goals (refine pi ?_; unfold szr; split <;> omega)
theorem s_laws_szPolS : SzL Pol Try.prog n_laws_szPolS := fun xs ok v F b h r h0 h1 => szPols (fun x _ => s_laws_szPol x) ok v F b h r h0 h1
end Go.Proofs.Ytienckhjfcplcaa
