
/- Rules: copies, comparisons, sizes; what is the same. -/
import Derived.Test.YtideefohbkhhhaaGreatW4
set_option linter.unusedSimpArgs false
set_option linter.unusedVariables false
set_option maxHeartbeats 1000000
namespace Go.Proofs.YtideefohbkhhhaaGreat
open Go Go.Ab
section
/- laws.toPol -/
def p_laws_toPol (x0 : AV) : Prog := .op (.box x0) fun v1 => .op (.alloc z5_5ed) fun v2 => .op (.alloc z5_5ed) fun v3 => .op (.fad 0 v1) fun v4 => .op (.ld1 v4) fun v5 => .op (.fad 0 v3) fun v6 => .op (.st 1 v6 v5) fun v7 => .op (.fad 1 v1) fun v8 => .op (.ld1 v8) fun v9 => .op (.fad 1 v3) fun v10 => .op (.st 1 v10 v9) fun v11 => .op (.fad 2 v1) fun v12 => .op (.ld1 v12) fun v13 => .op (.fad 2 v3) fun v14 => .op (.st 1 v14 v13) fun v15 => .op (.fad 3 v1) fun v16 => .op (.ld1 v16) fun v17 => .op (.fad 3 v3) fun v18 => .op (.st 1 v18 v17) fun v19 => .op (.fad 4 v1) fun v20 => .op (.ld1 v20) fun v21 => .op (.call n_laws_toPolS [v21]) fun v22 => .op (.fad 4 v3) fun v23 => .op (.st 1 v23 v22) fun v24 => .op (.ldn 5 v3) fun v25 => .op (.st 5 v2 v25) fun v26 => .fin [.cn 5 v2]
theorem c_laws_toPol (x0 : AV) : CC Tryz.prog n_laws_toPol [x0] (p_laws_toPol x0) := cc Tryz.func131 [] (fun _ => []) (by kernel_rfl)
/- laws.eqPol -/
def p_laws_eqPol (x0 x1 : AV) : Prog := .op (.box x0) fun v1 => .op (.box x1) fun v2 => .op (.fad 0 v1) fun v3 => .op (.ld1 v3) fun v4 => .op (.fad 0 v2) fun v5 => .op (.ld1 v5) fun v6 => .op (.bin 0 .neq v4 v6) fun v7 => .ite v7 (.fin [.val (AV.bool false)]) (.op (.fad 1 v1) fun v8 => .op (.ld1 v8) fun v9 => .op (.fad 1 v2) fun v10 => .op (.ld1 v10) fun v11 => .op (.bin 0 .neq v9 v11) fun v12 => .ite v12 (.fin [.val (AV.bool false)]) (.op (.fad 2 v1) fun v13 => .op (.ld1 v13) fun v14 => .op (.fad 2 v2) fun v15 => .op (.ld1 v15) fun v16 => .op (.bin 1 .neq v14 v16) fun v17 => .ite v17 (.fin [.val (AV.bool false)]) (.op (.fad 3 v1) fun v18 => .op (.ld1 v18) fun v19 => .op (.fad 3 v2) fun v20 => .op (.ld1 v20) fun v21 => .op (.bin 1 .neq v19 v21) fun v22 => .ite v22 (.fin [.val (AV.bool false)]) (.op (.fad 4 v1) fun v23 => .op (.ld1 v23) fun v24 => .op (.fad 4 v2) fun v25 => .op (.ld1 v25) fun v26 => .op (.call n_laws_eqPolS [v24, v26]) fun v27 => .op (.una .not v27) fun v28 => .ite v28 (.fin [.val (AV.bool false)]) (.fin [.val (AV.bool true)])))))
theorem c_laws_eqPol (x0 x1 : AV) : CC Tryz.prog n_laws_eqPol [x0, x1] (p_laws_eqPol x0 x1) := cc Tryz.func157 [] (fun _ => []) (by kernel_rfl)
/- laws.szPol -/
def p_laws_szPol (x0 x1 : AV) : Prog := .op (.box x0) fun v1 => .op (.fad 2 v1) fun v2 => .op (.ld1 v2) fun v3 => .op (.len 1 v3) fun v4 => .op (.bin 0 .sub x1 v4) fun v5 => .op (.bin 0 .lss v5 (AV.int .i64 0)) fun v6 => .ite v6 (.fin [.val (AV.int .i64 (-1))]) (.op (.fad 3 v1) fun v7 => .op (.ld1 v7) fun v8 => .op (.len 1 v8) fun v9 => .op (.bin 0 .sub v5 v9) fun v10 => .op (.bin 0 .lss v10 (AV.int .i64 0)) fun v11 => .ite v11 (.fin [.val (AV.int .i64 (-1))]) (.op (.fad 4 v1) fun v12 => .op (.ld1 v12) fun v13 => .op (.call n_laws_szPolS [v13, v10]) fun v14 => .op (.bin 0 .lss v14 (AV.int .i64 0)) fun v15 => .ite v15 (.fin [.val (AV.int .i64 (-1))]) (.fin [.val v14])))
theorem c_laws_szPol (x0 x1 : AV) : CC Tryz.prog n_laws_szPol [x0, x1] (p_laws_szPol x0 x1) := cc Tryz.func114 [] (fun _ => []) (by kernel_rfl)
/- laws.toPolS -/
def p_laws_toPolS (x0 : AV) : Prog := .op (.len 0 x0) fun v1 => .op (.mksl 5 72 z5_5ed v1 v1) fun v2 => .loop [AV.int .i64 0] (fun vs3 => .op (.len 0 x0) fun v5 => .op (.bin 0 .lss (g vs3 0) v5) fun v6 => .ite v6 (.op (.idx 5 x0 (g vs3 0)) fun v7 => .op (.ldn 5 v7) fun v8 => .op (.call n_laws_toPol [v8]) fun v9 => .op (.idx 5 v2 (g vs3 0)) fun v10 => .op (.st 5 v10 v9) fun v11 => .op (.bin 0 .add (g vs3 0) (AV.int .i64 1)) fun v12 => .leaf 0 [v12]) (.leaf 2 [g vs3 0])) fun t4 vs3 => tsel t4 1 (.leaf 1 vs3) (tsel t4 2 (.fin [.val v2]) .bad)
theorem c_laws_toPolS (x0 : AV) : CC Tryz.prog n_laws_toPolS [x0] (p_laws_toPolS x0) := cc Tryz.func213 [0, 3, 4] (fun _ => []) (by kernel_rfl)
/- laws.eqPolS -/
def p_laws_eqPolS (x0 x1 : AV) : Prog := .op (.len 0 x0) fun v1 => .op (.len 0 x1) fun v2 => .op (.bin 0 .neq v1 v2) fun v3 => .ite v3 (.fin [.val (AV.bool false)]) (.loop [AV.int .i64 0] (fun vs4 => .op (.len 0 x0) fun v6 => .op (.bin 0 .lss (g vs4 0) v6) fun v7 => .ite v7 (.op (.idx 5 x0 (g vs4 0)) fun v8 => .op (.ldn 5 v8) fun v9 => .op (.idx 5 x1 (g vs4 0)) fun v10 => .op (.ldn 5 v10) fun v11 => .op (.call n_laws_eqPol [v9, v11]) fun v12 => .op (.una .not v12) fun v13 => .ite v13 (.fin [.val (AV.bool false)]) (.op (.bin 0 .add (g vs4 0) (AV.int .i64 1)) fun v14 => .leaf 0 [v14])) (.leaf 2 [g vs4 0])) fun t5 vs4 => tsel t5 1 (.leaf 1 vs4) (tsel t5 2 (.fin [.val (AV.bool true)]) .bad))
theorem c_laws_eqPolS (x0 x1 : AV) : CC Tryz.prog n_laws_eqPolS [x0, x1] (p_laws_eqPolS x0 x1) := cc Tryz.func231 [0, 1, 5] (fun r => if r = 6 then [(0, []), (1, []), (2, []), (3, []), (4, []), (5, []), (6, []), (7, []), (8, []), (9, [])] else []) (by kernel_rfl)
/- laws.szPolS -/
def p_laws_szPolS (x0 x1 : AV) : Prog := .op (.len 0 x0) fun v1 => .op (.bin 0 .sub x1 v1) fun v2 => .op (.bin 0 .lss v2 (AV.int .i64 0)) fun v3 => .ite v3 (.fin [.val (AV.int .i64 (-1))]) (.loop [v2, AV.int .i64 0] (fun vs4 => .op (.len 0 x0) fun v6 => .op (.bin 0 .lss (g vs4 1) v6) fun v7 => .ite v7 (.op (.idx 5 x0 (g vs4 1)) fun v8 => .op (.ldn 5 v8) fun v9 => .op (.call n_laws_szPol [v9, g vs4 0]) fun v10 => .op (.bin 0 .lss v10 (AV.int .i64 0)) fun v11 => .ite v11 (.fin [.val (AV.int .i64 (-1))]) (.op (.bin 0 .add (g vs4 1) (AV.int .i64 1)) fun v12 => .leaf 0 [v10, v12])) (.leaf 2 [g vs4 0, g vs4 1])) fun t5 vs4 => tsel t5 1 (.leaf 1 vs4) (tsel t5 2 (.fin [.val (g vs4 0)]) .bad))
theorem c_laws_szPolS (x0 x1 : AV) : CC Tryz.prog n_laws_szPolS [x0, x1] (p_laws_szPolS x0 x1) := cc Tryz.func203 [0, 1, 5] (fun _ => []) (by kernel_rfl)
end
theorem pol_lt {x y : Pol} (h : y ∈ x.l) : SizeOf.sizeOf y < SizeOf.sizeOf x := by
  cases x with
  | mk k n s t l =>
    have := List.sizeOf_lt_of_mem (show y ∈ l from h)
    simp only [Pol.mk.sizeOf_spec]; omega
theorem pol_ind {p : Pol → Prop} (step : ∀ x, (∀ y ∈ x.l, p y) → p x) : ∀ x, p x := fun x =>
  step x fun y hy => pol_ind step y
termination_by x => SizeOf.sizeOf x
decreasing_by exact pol_lt hy

theorem toPols {xs : List Pol} (hc : ∀ x ∈ xs, CopyX Pol Tryz.prog n_laws_toPol x) (hs : xs.length + szs xs ≤ 1048576) : CopyL Tryz.prog n_laws_toPolS xs := by
  intro v F h r
  refine c_laws_toPolS _ (toSx_spec rfl rfl rfl hc r ?_)
  omega
theorem s_laws_toPol (x : Pol) : Sz.sz x ≤ 1048576 → CopyX Pol Tryz.prog n_laws_toPol x := by
  refine pol_ind (p := fun x => Sz.sz x ≤ 1048576 → CopyX Pol Tryz.prog n_laws_toPol x) ?_ x
  intro x ih hs cs F h r
  rw [Pol.sz_eq] at hs
  rw [Pol.rep_iff] at r
  obtain ⟨v0, rfl, r0⟩ := r
  have hc := toPols (xs := x.l) (fun y hy => ih y hy (by have := szs_mem hy; omega)) (by omega)
  refine c_laws_toPol _ ?_
  unfold p_laws_toPol
  have s_laws_toPolS := hc
  (repeat' first|refine vs ?_|(refine br ?_ ?_<;>intro _<;>try(exfalso;first|omega|contradiction))|((with_reducible refine g_callf n_laws_toPolS ?_);(refine aw_call (s_laws_toPolS _ _ _ slr_auto) ?_; rintro _ _ ⟨e_, _, _, _⟩; have n_ := e_.1; (try simp only [push_n, upd_n] at n_)))|((with_reducible refine g_idx ?_);((first|refine ix ?_|refine ixi ?_|(refine ixg ?_;intro _ _)|(refine ixgi ?_;intro _ _));first|rintro _ _ _ _ _ ⟨rfl,rfl⟩ _|rintro _ _ _ _ _ ⟨_,rfl,_⟩ _|rintro _ _ _ _ _ ⟨_,_,_,_,rfl,rfl,_,_⟩ _|intro _ _ _ _ _ _ _))|(refine sx ?_;intro _ _)|((with_reducible refine g_awp ?_);simp only [g0,g1,g2]))
  exact ⟨rfl, _, rfl, ext_auto, _, _, rfl, Pol.rep_iff.2 ⟨_, rfl, slr_auto⟩, ol_auto⟩
theorem s_laws_toPolS (xs : List Pol) (hs : xs.length + szs xs ≤ 1048576) : CopyL Tryz.prog n_laws_toPolS xs := toPols (fun x hx => s_laws_toPol x (by have := szs_mem hx; omega)) hs

theorem eqPols {xs : List Pol} (hc : ∀ x ∈ xs, EqX Pol Tryz.prog n_laws_eqPol x) (v v' : AV) (F F' : List Nat) (h : AH) (r : SlRep h v xs F) (r' : SlRep h v' xs F') : RCalls Tryz.prog n_laws_eqPolS [v, v'] h (.bool true) :=
  reader (c_laws_eqPolS _ _) (by simp only [old]) (eqSx_spec rfl hc r r')
theorem s_laws_eqPol : EqC Pol Tryz.prog n_laws_eqPol := by
  refine pol_ind ?_
  intro x ih cs cs' F F' h r r'
  rw [Pol.rep_iff] at r r'
  obtain ⟨v0, rfl, r0⟩ := r
  obtain ⟨u0, rfl, q0⟩ := r'
  have s_laws_eqPolS := eqPols ih
  refine reader (c_laws_eqPol _ _) (by simp only [old]) ?_
  unfold p_laws_eqPol
  (repeat' first|refine vs ?_|(refine br ?_ ?_<;>intro _<;>try(exfalso;first|omega|contradiction))|((with_reducible refine g_callf n_laws_eqPolS ?_);refine aw_rcall (s_laws_eqPolS _ _ _ _ _ slr_auto slr_auto) ?_)|((with_reducible refine g_idx ?_);((first|refine ix ?_|refine ixi ?_|(refine ixg ?_;intro _ _)|(refine ixgi ?_;intro _ _));first|rintro _ _ _ _ _ ⟨rfl,rfl⟩ _|rintro _ _ _ _ _ ⟨_,rfl,_⟩ _|rintro _ _ _ _ _ ⟨_,_,_,_,rfl,rfl,_,_⟩ _|intro _ _ _ _ _ _ _))|(refine sx ?_;intro _ _)|((with_reducible refine g_awp ?_);simp only [g0,g1,g2]))
  exact pb rfl
theorem s_laws_eqPolS : EqS Pol Tryz.prog n_laws_eqPolS := fun xs v v' F F' h r r' => eqPols (fun x _ => s_laws_eqPol x) v v' F F' h r r'

theorem szPols {xs : List Pol} (hc : ∀ x ∈ xs, SzX Pol Tryz.prog n_laws_szPol x) (ok : ∀ x ∈ xs, Cel.ok x) (v : AV) (F : List Nat) (b : Int) (h : AH) (r : SlRep h v xs F) (h0 : 0 ≤ b) (h1 : b ≤ 1048576) : RCalls Tryz.prog n_laws_szPolS [v, .int .i64 b] h (.int .i64 (szr b (xs.length + szs xs))) :=
  reader (c_laws_szPolS _ _) (by simp only [old]) (szSx_spec rfl hc ok r h0 h1)
theorem s_laws_szPol : SzC Pol Tryz.prog n_laws_szPol := by
  refine pol_ind ?_
  intro x ih ok cs F b h r h0 h1
  have hS := Pol.sz_eq x
  rw [Pol.rep_iff] at r
  obtain ⟨v0, rfl, r0⟩ := r
  have okl : ∀ y ∈ x.l, Cel.ok y := by
    cases x with
    | mk k n s t l => exact Pol.oks_iff.1 ok.2.2.2.2
  have ok1 : x.key.size ≤ 9223372036854775807 := by cases x with
    | mk k n s t l => exact ok.2.2.1
  have ok2 : x.text.size ≤ 9223372036854775807 := by cases x with
    | mk k n s t l => exact ok.2.2.2.1
  have s_laws_szPolS := szPols ih okl
  refine reader (c_laws_szPol _ _) (by simp only [old]) ?_
  unfold p_laws_szPol
  (repeat' first|refine vs ?_|(refine br ?_ ?_<;>intro _<;>try(exfalso;first|omega|contradiction))|((with_reducible refine g_callf n_laws_szPolS ?_);(refine aw_sz (s_laws_szPolS _ _ _ _ slr_auto om_auto om_auto) (fun _ => ?_) (fun _ => ?_)))|((with_reducible refine g_idx ?_);((first|refine ix ?_|refine ixi ?_|(refine ixg ?_;intro _ _)|(refine ixgi ?_;intro _ _));first|rintro _ _ _ _ _ ⟨rfl,rfl⟩ _|rintro _ _ _ _ _ ⟨_,rfl,_⟩ _|rintro _ _ _ _ _ ⟨_,_,_,_,rfl,rfl,_,_⟩ _|intro _ _ _ _ _ _ _))|(refine sx ?_;intro _ _)|((with_reducible refine g_awp ?_);simp only [g0,g1,g2]))
  all_goals (refine pi ?_; unfold szr; split <;> omega)
theorem s_laws_szPolS : SzL Pol Tryz.prog n_laws_szPolS := fun xs ok v F b h r h0 h1 => szPols (fun x _ => s_laws_szPol x) ok v F b h r h0 h1
end Go.Proofs.YtideefohbkhhhaaGreat
