import Derived.Test.YtjnekdbdmoibgaaGreatCNm
import Derived.Test.YtjnekdbdmoibgaaGreatCK4
import Derived.Test.YtjnekdbdmoibgaaGreatCKW1
import Derived.Test.YtjnekdbdmoibgaaGreatCK5
section
/- The text of a mark. -/
set_option linter.unusedSimpArgs false
set_option linter.unusedVariables false
namespace Go.Proofs.YtjnekdbdmoibgaaGreat
open Go Go.Ab
section
/- laws.markText -/
def p_laws_markText (x0 : AV) : Prog := .op (.bin 0 .leq x0 (AV.int .i64 0)) fun v1 => .ite v1 (.fin [.val (AV.str ⟨#[109, 48]⟩)]) (.loop [x0, AV.str ⟨#[]⟩] (fun vs2 => .op (.bin 0 .gtr (g vs2 0) (AV.int .i64 0)) fun v4 => .ite v4 (.op (.bin 0 .rem (g vs2 0) (AV.int .i64 10)) fun v5 => .op (.bin 0 .add (AV.int .i64 48) v5) fun v6 => .op (.conv .u8 v6) fun v7 => .op (.bslice 1 1 [AV.int .u8 0] [(0, 1, v7)]) fun v8 => .op (.bstr v8) fun v9 => .op (.bin 1 .add v9 (g vs2 1)) fun v10 => .op (.bin 0 .quo (g vs2 0) (AV.int .i64 10)) fun v11 => .leaf 0 [v11, v10]) (.leaf 2 [g vs2 0, g vs2 1])) fun t3 vs2 => tsel t3 1 (.leaf 1 vs2) (tsel t3 2 (.op (.bin 1 .add (AV.str ⟨#[109]⟩) (g vs2 1)) fun v12 => .fin [.val v12]) .bad))
theorem c_laws_markText (x0 : AV) : CC Tryz.prog n_laws_markText [x0] (p_laws_markText x0) := cc Tryz.func182 [0, 3] (fun _ => []) (by kernel_rfl)
end
theorem mdig_fuel : ∀ (f f' k : Nat), k ≤ f → k ≤ f' → mdig f k = mdig f' k := by
  intro f
  induction f with
  | zero =>
    intro f' k h h'
    have : k = 0 := by omega
    subst this
    cases f' <;> simp [mdig]
  | succ f ih =>
    intro f' k h h'
    cases f' with
    | zero =>
      have : k = 0 := by omega
      subst this; simp [mdig]
    | succ f' =>
      simp only [mdig]
      split
      · rfl
      · rw [ih f' (k / 10) (by omega) (by omega)]
def digs (n : Nat) : List UInt8 := mdig n n
theorem digs_0 : digs 0 = [] := rfl
theorem digs_s {n : Nat} (h : 0 < n) : digs n = digs (n / 10) ++ [UInt8.ofNat (48 + n % 10)] := by
  cases n with
  | zero => omega
  | succ n =>
    unfold digs
    rw [mdig, if_neg (by omega), mdig_fuel n ((n + 1) / 10) ((n + 1) / 10) (by omega) (Nat.le_refl _)]
theorem digs_len (n : Nat) : (digs n).length ≤ n := by
  induction n using Nat.strongRecOn with
  | _ n ih =>
    by_cases h : 0 < n
    · rw [digs_s h, List.length_append]
      have := ih (n / 10) (by omega)
      simp only [List.length_cons, List.length_nil]; omega
    · have : n = 0 := by omega
      subst this; simp [digs_0]
theorem bys_app (a b : ByteArray) : bys (a ++ b) = bys a ++ bys b := by
  unfold bys
  simp [ByteArray.data_append]
theorem bys_inj {a b : ByteArray} (h : bys a = bys b) : a = b := by
  unfold bys at h
  exact ByteArray.ext (Array.toList_inj.1 h)
section
variable {P : Program} {h : AH} {Q : Nat → List AV → AH → Prop} {k : AV → Prog}
theorem aw_sadd {a b : ByteArray} (hl : a.size + b.size ≤ 9223372036854775807) (hk : (k (.str (a ++ b))).awp P h Q) : (Prog.op (.bin 1 .add (.str a) (.str b)) k).awp P h Q := by
  simp only [Prog.awp, AOp.go, binOk, abin]
  rw [if_pos (by omega)]; exact hk
theorem aw_qn {n : Nat} (hn : n < 4611686018427387904) (hk : (k (.int .i64 ((n / 10 : Nat) : Int))).awp P h Q) : (Prog.op (.bin 0 .quo (.int .i64 (n : Int)) (.int .i64 10)) k).awp P h Q := by
  refine aw_quow (by decide) ?_
  have : (n : Int).tdiv 10 = ((n / 10 : Nat) : Int) := by rw [Int.tdiv_eq_ediv_of_nonneg (by omega)]; omega
  rw [this, wrap_id (by omega) (by omega)]; exact hk
theorem aw_rn {n : Nat} (hk : (k (.int .i64 ((n % 10 : Nat) : Int))).awp P h Q) : (Prog.op (.bin 0 .rem (.int .i64 (n : Int)) (.int .i64 10)) k).awp P h Q := by
  refine aw_rem (by decide) ?_
  have : (n : Int).tmod 10 = ((n % 10 : Nat) : Int) := by rw [Int.tmod_eq_emod_of_nonneg (by omega)]; omega
  rw [this]; exact hk
theorem aw_cv8 {n : Int} (h0 : 0 ≤ n) (h1 : n < 256) (hk : (k (.int .u8 n)).awp P h Q) : (Prog.op (.conv .u8 (.int .i64 n)) k).awp P h Q := by
  refine aw_conv ?_
  have : IntKind.u8.wrap n = n := by
    rw [IntKind.wrap_u8]; omega
  rw [this]; exact hk
end
theorem s_laws_markText : MText Tryz.prog n_laws_markText := by
  intro k h h0 h1
  refine reader (c_laws_markText _) (by simp only [old]) ?_
  unfold p_laws_markText
  obtain ⟨n, rfl⟩ : ∃ n : Nat, k = n := ⟨k.toNat, by omega⟩
  refine br (fun hle => ?_) (fun hgt => ?_)
  · refine aw_ite_t (aw_fin1 (pv ?_))
    unfold mtext; rw [if_pos hle]
  refine aw_ite_f ?_
  refine aw_loop (fun m vs h1 => ∃ s, vs = [.int .i64 (m : Int), .str s] ∧ Ext h h1 ∧ digs m ++ bys s = digs n ∧ m ≤ n) n ⟨_, rfl, Ext.refl _, by rw [show bys ⟨#[]⟩ = [] from rfl, List.append_nil], Nat.le_refl _⟩ ?_
  rintro m vs h2 ⟨s, rfl, e2, hd, hm⟩
  simp only [g0, g1]
  have hl := digs_len n
  rw [← hd, List.length_append, bys_len] at hl
  refine br (fun hlt => ?_) (fun hge => ?_)
  · refine aw_ite_t (aw_rn (aw_addn (by omega) (by omega) (aw_cv8 (by omega) (by omega) ?_)))
    refine w_bs (by rfl) (by decide) (by rfl) ?_
    refine aw_bstr1 (n := 48 + ((m % 10 : Nat) : Int)) (by simp [splice]) (by simp [live]) ?_
    refine aw_sadd (by have : (⟨#[UInt8.ofNat (48 + ((m % 10 : Nat) : Int)).toNat]⟩ : ByteArray).size = 1 := rfl
                       omega) ?_
    refine aw_qn (by omega) (aw_leaf (aw_nexts ⟨m / 10, by omega, _, rfl, e2.push _, ?_, by omega⟩))
    rw [bys_app, ← hd, digs_s (show 0 < m by omega), List.append_assoc]
    congr 1
  · have : m = 0 := by omega
    subst this
    rw [digs_0, List.nil_append] at hd
    refine aw_ite_f (aw_leaf (aw_ends (by decide) (aw_tsel_ne (by decide) (aw_tsel_eq ?_))))
    simp only [g1]
    refine aw_sadd (by have : (⟨#[109]⟩ : ByteArray).size = 1 := rfl
                       omega) (aw_fin1 (pv ?_ e2))
    unfold mtext
    rw [if_neg hgt]
    congr 1
    refine bys_inj ?_
    rw [bys_app, hd]
    rfl
end Go.Proofs.YtjnekdbdmoibgaaGreat
end
section
/- Attr: marks. Written by mkm.py. -/
set_option linter.unusedSimpArgs false
set_option linter.unusedVariables false
set_option maxHeartbeats 1000000
namespace Go.Proofs.YtjnekdbdmoibgaaGreat
open Go Go.Ab
section
/- laws.markAttrS -/
def p_laws_markAttrS (x0 x1 : AV) : Prog := .loop [x1, AV.int .i64 0] (fun vs1 => .op (.len 0 x0) fun v3 => .op (.bin 0 .lss (g vs1 1) v3) fun v4 => .ite v4 (.op (.call n_laws_markText [g vs1 0]) fun v5 => .op (.idx 4 x0 (g vs1 1)) fun v6 => .op (.fad 0 v6) fun v7 => .op (.st 1 v7 v5) fun v8 => .op (.bin 0 .add (g vs1 0) (AV.int .i64 1)) fun v9 => .op (.bin 0 .rem v9 (AV.int .i64 3)) fun v10 => .op (.bin 0 .eql v10 (AV.int .i64 0)) fun v11 => .op (.idx 4 x0 (g vs1 1)) fun v12 => .op (.fad 1 v12) fun v13 => .op (.st 1 v13 v11) fun v14 => .op (.bin 0 .add v9 (AV.int .i64 1)) fun v15 => .op (.idx 4 x0 (g vs1 1)) fun v16 => .op (.fad 2 v16) fun v17 => .op (.st 1 v17 v15) fun v18 => .op (.bin 0 .add v15 (AV.int .i64 1)) fun v19 => .op (.call n_laws_markText [v19]) fun v20 => .op (.idx 4 x0 (g vs1 1)) fun v21 => .op (.fad 3 v21) fun v22 => .op (.st 1 v22 v20) fun v23 => .op (.bin 0 .add v19 (AV.int .i64 1)) fun v24 => .op (.bin 0 .add (g vs1 1) (AV.int .i64 1)) fun v25 => .leaf 0 [v24, v25]) (.leaf 2 [g vs1 0, g vs1 1])) fun t2 vs1 => tsel t2 1 (.leaf 1 vs1) (tsel t2 2 (.fin [.val (g vs1 0)]) .bad)
theorem c_laws_markAttrS (x0 x1 : AV) : CC Tryz.prog n_laws_markAttrS [x0, x1] (p_laws_markAttrS x0 x1) := cc Tryz.func100 [0, 1, 5] (fun _ => []) (by kernel_rfl)
/- laws.heldAttrS -/
def p_laws_heldAttrS (x0 x1 : AV) : Prog := .loop [x1, AV.int .i64 0] (fun vs1 => .op (.len 0 x0) fun v3 => .op (.bin 0 .lss (g vs1 1) v3) fun v4 => .ite v4 (.op (.idx 4 x0 (g vs1 1)) fun v5 => .op (.fad 0 v5) fun v6 => .op (.ld1 v6) fun v7 => .op (.call n_laws_markText [g vs1 0]) fun v8 => .chk (.ld1 v6) v7 (.op (.bin 1 .neq v7 v8) fun v9 => .ite v9 (.fin [.val (AV.int .i64 (-1))]) (.op (.bin 0 .add (g vs1 0) (AV.int .i64 1)) fun v10 => .op (.idx 4 x0 (g vs1 1)) fun v11 => .op (.fad 1 v11) fun v12 => .op (.ld1 v12) fun v13 => .op (.bin 0 .rem v10 (AV.int .i64 3)) fun v14 => .op (.bin 0 .eql v14 (AV.int .i64 0)) fun v15 => .op (.bin 2 .neq v13 v15) fun v16 => .ite v16 (.fin [.val (AV.int .i64 (-1))]) (.op (.bin 0 .add v10 (AV.int .i64 1)) fun v17 => .op (.idx 4 x0 (g vs1 1)) fun v18 => .op (.fad 2 v18) fun v19 => .op (.ld1 v19) fun v20 => .op (.bin 0 .neq v20 v17) fun v21 => .ite v21 (.fin [.val (AV.int .i64 (-1))]) (.op (.bin 0 .add v17 (AV.int .i64 1)) fun v22 => .op (.idx 4 x0 (g vs1 1)) fun v23 => .op (.fad 3 v23) fun v24 => .op (.ld1 v24) fun v25 => .op (.call n_laws_markText [v22]) fun v26 => .chk (.ld1 v24) v25 (.op (.bin 1 .neq v25 v26) fun v27 => .ite v27 (.fin [.val (AV.int .i64 (-1))]) (.op (.bin 0 .add v22 (AV.int .i64 1)) fun v28 => .op (.bin 0 .add (g vs1 1) (AV.int .i64 1)) fun v29 => .leaf 0 [v28, v29]))))))) (.leaf 2 [g vs1 0, g vs1 1])) fun t2 vs1 => tsel t2 1 (.leaf 1 vs1) (tsel t2 2 (.fin [.val (g vs1 0)]) .bad)
theorem c_laws_heldAttrS (x0 x1 : AV) : CC Tryz.prog n_laws_heldAttrS [x0, x1] (p_laws_heldAttrS x0 x1) := cc Tryz.func165 [0, 1, 5] (fun r => if r = 4 then [(0, []), (1, []), (2, []), (3, []), (4, []), (5, []), (6, [4]), (7, [])] else if r = 13 then [(0, []), (1, []), (2, []), (3, []), (4, []), (5, []), (6, [4]), (7, [])] else []) (by kernel_rfl)
end
theorem s_laws_markAttrS : MarkS Attr Tryz.prog n_laws_markAttrS := fun xs v F n m h r o h0 h1 => c_laws_markAttrS _ _ (Prog.awp_mono _ (pMark_spec (w := 4) rfl (ss := [([0], .s n_laws_markText), ([1], .b), ([2], .i), ([3], .s n_laws_markText)]) (fun x _ => by simp [MOk, Fld.f, s_laws_markText]) r o h0 h1) fun _ _ _ x => x)
theorem s_laws_heldAttrS : HeldS Attr Tryz.prog n_laws_heldAttrS := fun xs v F m h r h0 h1 => reader (c_laws_heldAttrS _ _) (by simp only [old]) (pHeld_spec (w := 4) rfl (ss := [([0], .s n_laws_markText), ([1], .b), ([2], .i), ([3], .s n_laws_markText)]) (fun x _ => by simp [HOk, Fld.f, s_laws_markText]) r h0 h1)
end Go.Proofs.YtjnekdbdmoibgaaGreat
end
section
/- Span: marks. Written by mkm.py. -/
set_option linter.unusedSimpArgs false
set_option linter.unusedVariables false
set_option maxHeartbeats 1000000
namespace Go.Proofs.YtjnekdbdmoibgaaGreat
open Go Go.Ab
section
/- laws.markSpanS -/
def p_laws_markSpanS (x0 x1 : AV) : Prog := .loop [x1, AV.int .i64 0] (fun vs1 => .op (.len 0 x0) fun v3 => .op (.bin 0 .lss (g vs1 1) v3) fun v4 => .ite v4 (.op (.idx 6 x0 (g vs1 1)) fun v5 => .op (.fad 0 v5) fun v6 => .op (.st 1 v6 (g vs1 0)) fun v7 => .op (.bin 0 .add (g vs1 0) (AV.int .i64 1)) fun v8 => .op (.idx 6 x0 (g vs1 1)) fun v9 => .op (.fad 1 v9) fun v10 => .op (.st 1 v10 v8) fun v11 => .op (.bin 0 .add v8 (AV.int .i64 1)) fun v12 => .op (.idx 6 x0 (g vs1 1)) fun v13 => .op (.fad 2 v13) fun v14 => .op (.st 1 v14 v12) fun v15 => .op (.bin 0 .add v12 (AV.int .i64 1)) fun v16 => .op (.idx 6 x0 (g vs1 1)) fun v17 => .op (.fad 3 v17) fun v18 => .op (.st 1 v18 v16) fun v19 => .op (.bin 0 .add v16 (AV.int .i64 1)) fun v20 => .op (.bin 0 .rem v20 (AV.int .i64 3)) fun v21 => .op (.bin 0 .eql v21 (AV.int .i64 0)) fun v22 => .op (.idx 6 x0 (g vs1 1)) fun v23 => .op (.fad 4 v23) fun v24 => .op (.st 1 v24 v22) fun v25 => .op (.bin 0 .add v20 (AV.int .i64 1)) fun v26 => .op (.idx 6 x0 (g vs1 1)) fun v27 => .op (.fad 5 v27) fun v28 => .op (.ld1 v28) fun v29 => .op (.call n_laws_markAttrS [v29, v26]) fun v30 => .op (.bin 0 .add (g vs1 1) (AV.int .i64 1)) fun v31 => .leaf 0 [v30, v31]) (.leaf 2 [g vs1 0, g vs1 1])) fun t2 vs1 => tsel t2 1 (.leaf 1 vs1) (tsel t2 2 (.fin [.val (g vs1 0)]) .bad)
theorem c_laws_markSpanS (x0 x1 : AV) : CC Tryz.prog n_laws_markSpanS [x0, x1] (p_laws_markSpanS x0 x1) := cc Tryz.func243 [0, 1, 5] (fun _ => []) (by kernel_rfl)
/- laws.heldSpanS -/
def p_laws_heldSpanS (x0 x1 : AV) : Prog := .loop [x1, AV.int .i64 0] (fun vs1 => .op (.len 0 x0) fun v3 => .op (.bin 0 .lss (g vs1 1) v3) fun v4 => .ite v4 (.op (.idx 6 x0 (g vs1 1)) fun v5 => .op (.fad 0 v5) fun v6 => .op (.ld1 v6) fun v7 => .op (.bin 0 .neq v7 (g vs1 0)) fun v8 => .ite v8 (.fin [.val (AV.int .i64 (-1))]) (.op (.bin 0 .add (g vs1 0) (AV.int .i64 1)) fun v9 => .op (.idx 6 x0 (g vs1 1)) fun v10 => .op (.fad 1 v10) fun v11 => .op (.ld1 v11) fun v12 => .op (.bin 0 .neq v12 v9) fun v13 => .ite v13 (.fin [.val (AV.int .i64 (-1))]) (.op (.bin 0 .add v9 (AV.int .i64 1)) fun v14 => .op (.idx 6 x0 (g vs1 1)) fun v15 => .op (.fad 2 v15) fun v16 => .op (.ld1 v16) fun v17 => .op (.bin 0 .neq v17 v14) fun v18 => .ite v18 (.fin [.val (AV.int .i64 (-1))]) (.op (.bin 0 .add v14 (AV.int .i64 1)) fun v19 => .op (.idx 6 x0 (g vs1 1)) fun v20 => .op (.fad 3 v20) fun v21 => .op (.ld1 v21) fun v22 => .op (.bin 0 .neq v22 v19) fun v23 => .ite v23 (.fin [.val (AV.int .i64 (-1))]) (.op (.bin 0 .add v19 (AV.int .i64 1)) fun v24 => .op (.idx 6 x0 (g vs1 1)) fun v25 => .op (.fad 4 v25) fun v26 => .op (.ld1 v26) fun v27 => .op (.bin 0 .rem v24 (AV.int .i64 3)) fun v28 => .op (.bin 0 .eql v28 (AV.int .i64 0)) fun v29 => .op (.bin 2 .neq v27 v29) fun v30 => .ite v30 (.fin [.val (AV.int .i64 (-1))]) (.op (.bin 0 .add v24 (AV.int .i64 1)) fun v31 => .op (.idx 6 x0 (g vs1 1)) fun v32 => .op (.fad 5 v32) fun v33 => .op (.ld1 v33) fun v34 => .op (.call n_laws_heldAttrS [v34, v31]) fun v35 => .op (.bin 0 .lss v35 (AV.int .i64 0)) fun v36 => .ite v36 (.fin [.val (AV.int .i64 (-1))]) (.op (.bin 0 .add (g vs1 1) (AV.int .i64 1)) fun v37 => .leaf 0 [v35, v37]))))))) (.leaf 2 [g vs1 0, g vs1 1])) fun t2 vs1 => tsel t2 1 (.leaf 1 vs1) (tsel t2 2 (.fin [.val (g vs1 0)]) .bad)
theorem c_laws_heldSpanS (x0 x1 : AV) : CC Tryz.prog n_laws_heldSpanS [x0, x1] (p_laws_heldSpanS x0 x1) := cc Tryz.func245 [0, 1, 5] (fun _ => []) (by kernel_rfl)
/- laws.markSpan -/
end
theorem s_laws_markSpanS : MarkS Span Tryz.prog n_laws_markSpanS := fun xs v F n m h r o h0 h1 => c_laws_markSpanS _ _ (Prog.awp_mono _ (pMark_spec (w := 6) rfl (ss := [([0], .i), ([1], .i), ([2], .i), ([3], .i), ([4], .b), ([5], .l n_laws_markAttrS)]) (fun x _ => by simp [MOk, Fld.f, s_laws_markAttrS.x]) r o h0 h1) fun _ _ _ x => x)
theorem s_laws_heldSpanS : HeldS Span Tryz.prog n_laws_heldSpanS := fun xs v F m h r h0 h1 => reader (c_laws_heldSpanS _ _) (by simp only [old]) (pHeld_spec (w := 6) rfl (ss := [([0], .i), ([1], .i), ([2], .i), ([3], .i), ([4], .b), ([5], .l n_laws_heldAttrS)]) (fun x _ => by simp [HOk, Fld.f, s_laws_heldAttrS.x]) r h0 h1)
end Go.Proofs.YtjnekdbdmoibgaaGreat
end
section
/- Trail: marks. Written by mkm.py. -/
set_option linter.unusedSimpArgs false
set_option linter.unusedVariables false
set_option maxHeartbeats 1000000
namespace Go.Proofs.YtjnekdbdmoibgaaGreat
open Go Go.Ab
section
/- laws.markTrailS -/
def p_laws_markTrailS (x0 x1 : AV) : Prog := .loop [x1, AV.int .i64 0] (fun vs1 => .op (.len 0 x0) fun v3 => .op (.bin 0 .lss (g vs1 1) v3) fun v4 => .ite v4 (.op (.idx 4 x0 (g vs1 1)) fun v5 => .op (.fad 0 v5) fun v6 => .op (.st 1 v6 (g vs1 0)) fun v7 => .op (.bin 0 .add (g vs1 0) (AV.int .i64 1)) fun v8 => .op (.idx 4 x0 (g vs1 1)) fun v9 => .op (.fad 1 v9) fun v10 => .op (.st 1 v10 v8) fun v11 => .op (.bin 0 .add v8 (AV.int .i64 1)) fun v12 => .op (.idx 4 x0 (g vs1 1)) fun v13 => .op (.fad 2 v13) fun v14 => .op (.st 1 v14 v12) fun v15 => .op (.bin 0 .add v12 (AV.int .i64 1)) fun v16 => .op (.idx 4 x0 (g vs1 1)) fun v17 => .op (.fad 3 v17) fun v18 => .op (.ld1 v18) fun v19 => .op (.call n_laws_markSpanS [v19, v16]) fun v20 => .op (.bin 0 .add (g vs1 1) (AV.int .i64 1)) fun v21 => .leaf 0 [v20, v21]) (.leaf 2 [g vs1 0, g vs1 1])) fun t2 vs1 => tsel t2 1 (.leaf 1 vs1) (tsel t2 2 (.fin [.val (g vs1 0)]) .bad)
theorem c_laws_markTrailS (x0 x1 : AV) : CC Tryz.prog n_laws_markTrailS [x0, x1] (p_laws_markTrailS x0 x1) := cc Tryz.func160 [0, 1, 5] (fun _ => []) (by kernel_rfl)
/- laws.heldTrailS -/
def p_laws_heldTrailS (x0 x1 : AV) : Prog := .loop [x1, AV.int .i64 0] (fun vs1 => .op (.len 0 x0) fun v3 => .op (.bin 0 .lss (g vs1 1) v3) fun v4 => .ite v4 (.op (.idx 4 x0 (g vs1 1)) fun v5 => .op (.fad 0 v5) fun v6 => .op (.ld1 v6) fun v7 => .op (.bin 0 .neq v7 (g vs1 0)) fun v8 => .ite v8 (.fin [.val (AV.int .i64 (-1))]) (.op (.bin 0 .add (g vs1 0) (AV.int .i64 1)) fun v9 => .op (.idx 4 x0 (g vs1 1)) fun v10 => .op (.fad 1 v10) fun v11 => .op (.ld1 v11) fun v12 => .op (.bin 0 .neq v12 v9) fun v13 => .ite v13 (.fin [.val (AV.int .i64 (-1))]) (.op (.bin 0 .add v9 (AV.int .i64 1)) fun v14 => .op (.idx 4 x0 (g vs1 1)) fun v15 => .op (.fad 2 v15) fun v16 => .op (.ld1 v16) fun v17 => .op (.bin 0 .neq v17 v14) fun v18 => .ite v18 (.fin [.val (AV.int .i64 (-1))]) (.op (.bin 0 .add v14 (AV.int .i64 1)) fun v19 => .op (.idx 4 x0 (g vs1 1)) fun v20 => .op (.fad 3 v20) fun v21 => .op (.ld1 v21) fun v22 => .op (.call n_laws_heldSpanS [v22, v19]) fun v23 => .op (.bin 0 .lss v23 (AV.int .i64 0)) fun v24 => .ite v24 (.fin [.val (AV.int .i64 (-1))]) (.op (.bin 0 .add (g vs1 1) (AV.int .i64 1)) fun v25 => .leaf 0 [v23, v25]))))) (.leaf 2 [g vs1 0, g vs1 1])) fun t2 vs1 => tsel t2 1 (.leaf 1 vs1) (tsel t2 2 (.fin [.val (g vs1 0)]) .bad)
theorem c_laws_heldTrailS (x0 x1 : AV) : CC Tryz.prog n_laws_heldTrailS [x0, x1] (p_laws_heldTrailS x0 x1) := cc Tryz.func163 [0, 1, 5] (fun _ => []) (by kernel_rfl)
end
theorem s_laws_markTrailS : MarkS Trail Tryz.prog n_laws_markTrailS := fun xs v F n m h r o h0 h1 => c_laws_markTrailS _ _ (Prog.awp_mono _ (pMark_spec (w := 4) rfl (ss := [([0], .i), ([1], .i), ([2], .i), ([3], .l n_laws_markSpanS)]) (fun x _ => by simp [MOk, Fld.f, s_laws_markSpanS.x]) r o h0 h1) fun _ _ _ x => x)
theorem s_laws_heldTrailS : HeldS Trail Tryz.prog n_laws_heldTrailS := fun xs v F m h r h0 h1 => reader (c_laws_heldTrailS _ _) (by simp only [old]) (pHeld_spec (w := 4) rfl (ss := [([0], .i), ([1], .i), ([2], .i), ([3], .l n_laws_heldSpanS)]) (fun x _ => by simp [HOk, Fld.f, s_laws_heldSpanS.x]) r h0 h1)
end Go.Proofs.YtjnekdbdmoibgaaGreat
end
section
/- Stripe: marks. Written by mkm.py. -/
set_option linter.unusedSimpArgs false
set_option linter.unusedVariables false
set_option maxHeartbeats 1000000
namespace Go.Proofs.YtjnekdbdmoibgaaGreat
open Go Go.Ab
section
/- laws.markStripeS -/
def p_laws_markStripeS (x0 x1 : AV) : Prog := .loop [x1, AV.int .i64 0] (fun vs1 => .op (.len 0 x0) fun v3 => .op (.bin 0 .lss (g vs1 1) v3) fun v4 => .ite v4 (.op (.idx 2 x0 (g vs1 1)) fun v5 => .op (.fad 0 v5) fun v6 => .op (.st 1 v6 (g vs1 0)) fun v7 => .op (.bin 0 .add (g vs1 0) (AV.int .i64 1)) fun v8 => .op (.idx 2 x0 (g vs1 1)) fun v9 => .op (.fad 1 v9) fun v10 => .op (.ld1 v10) fun v11 => .op (.call n_laws_markTrailS [v11, v8]) fun v12 => .op (.bin 0 .add (g vs1 1) (AV.int .i64 1)) fun v13 => .leaf 0 [v12, v13]) (.leaf 2 [g vs1 0, g vs1 1])) fun t2 vs1 => tsel t2 1 (.leaf 1 vs1) (tsel t2 2 (.fin [.val (g vs1 0)]) .bad)
theorem c_laws_markStripeS (x0 x1 : AV) : CC Tryz.prog n_laws_markStripeS [x0, x1] (p_laws_markStripeS x0 x1) := cc Tryz.func70 [0, 1, 5] (fun _ => []) (by kernel_rfl)
/- laws.heldStripeS -/
def p_laws_heldStripeS (x0 x1 : AV) : Prog := .loop [x1, AV.int .i64 0] (fun vs1 => .op (.len 0 x0) fun v3 => .op (.bin 0 .lss (g vs1 1) v3) fun v4 => .ite v4 (.op (.idx 2 x0 (g vs1 1)) fun v5 => .op (.fad 0 v5) fun v6 => .op (.ld1 v6) fun v7 => .op (.bin 0 .neq v7 (g vs1 0)) fun v8 => .ite v8 (.fin [.val (AV.int .i64 (-1))]) (.op (.bin 0 .add (g vs1 0) (AV.int .i64 1)) fun v9 => .op (.idx 2 x0 (g vs1 1)) fun v10 => .op (.fad 1 v10) fun v11 => .op (.ld1 v11) fun v12 => .op (.call n_laws_heldTrailS [v12, v9]) fun v13 => .op (.bin 0 .lss v13 (AV.int .i64 0)) fun v14 => .ite v14 (.fin [.val (AV.int .i64 (-1))]) (.op (.bin 0 .add (g vs1 1) (AV.int .i64 1)) fun v15 => .leaf 0 [v13, v15]))) (.leaf 2 [g vs1 0, g vs1 1])) fun t2 vs1 => tsel t2 1 (.leaf 1 vs1) (tsel t2 2 (.fin [.val (g vs1 0)]) .bad)
theorem c_laws_heldStripeS (x0 x1 : AV) : CC Tryz.prog n_laws_heldStripeS [x0, x1] (p_laws_heldStripeS x0 x1) := cc Tryz.func78 [0, 1, 5] (fun _ => []) (by kernel_rfl)
end
theorem s_laws_markStripeS : MarkS Stripe Tryz.prog n_laws_markStripeS := fun xs v F n m h r o h0 h1 => c_laws_markStripeS _ _ (Prog.awp_mono _ (pMark_spec (w := 2) rfl (ss := [([0], .i), ([1], .l n_laws_markTrailS)]) (fun x _ => by simp [MOk, Fld.f, s_laws_markTrailS.x]) r o h0 h1) fun _ _ _ x => x)
theorem s_laws_heldStripeS : HeldS Stripe Tryz.prog n_laws_heldStripeS := fun xs v F m h r h0 h1 => reader (c_laws_heldStripeS _ _) (by simp only [old]) (pHeld_spec (w := 2) rfl (ss := [([0], .i), ([1], .l n_laws_heldTrailS)]) (fun x _ => by simp [HOk, Fld.f, s_laws_heldTrailS.x]) r h0 h1)
end Go.Proofs.YtjnekdbdmoibgaaGreat
end
section
/- Item: marks. Written by mkm.py. -/
set_option linter.unusedSimpArgs false
set_option linter.unusedVariables false
set_option maxHeartbeats 1000000
namespace Go.Proofs.YtjnekdbdmoibgaaGreat
open Go Go.Ab
section
/- laws.markItemS -/
def p_laws_markItemS (x0 x1 : AV) : Prog := .loop [x1, AV.int .i64 0] (fun vs1 => .op (.len 0 x0) fun v3 => .op (.bin 0 .lss (g vs1 1) v3) fun v4 => .ite v4 (.op (.idx 7 x0 (g vs1 1)) fun v5 => .op (.fad 0 v5) fun v6 => .op (.st 1 v6 (g vs1 0)) fun v7 => .op (.bin 0 .add (g vs1 0) (AV.int .i64 1)) fun v8 => .op (.idx 7 x0 (g vs1 1)) fun v9 => .op (.fad 1 v9) fun v10 => .op (.fad 0 v10) fun v11 => .op (.st 1 v11 v8) fun v12 => .op (.bin 0 .add v8 (AV.int .i64 1)) fun v13 => .op (.idx 7 x0 (g vs1 1)) fun v14 => .op (.fad 1 v14) fun v15 => .op (.fad 1 v15) fun v16 => .op (.st 1 v16 v13) fun v17 => .op (.bin 0 .add v13 (AV.int .i64 1)) fun v18 => .op (.idx 7 x0 (g vs1 1)) fun v19 => .op (.fad 1 v19) fun v20 => .op (.fad 2 v20) fun v21 => .op (.st 1 v21 v18) fun v22 => .op (.bin 0 .add v18 (AV.int .i64 1)) fun v23 => .op (.idx 7 x0 (g vs1 1)) fun v24 => .op (.fad 1 v24) fun v25 => .op (.fad 3 v25) fun v26 => .op (.st 1 v26 v23) fun v27 => .op (.bin 0 .add v23 (AV.int .i64 1)) fun v28 => .op (.bin 0 .rem v28 (AV.int .i64 3)) fun v29 => .op (.bin 0 .eql v29 (AV.int .i64 0)) fun v30 => .op (.idx 7 x0 (g vs1 1)) fun v31 => .op (.fad 1 v31) fun v32 => .op (.fad 4 v32) fun v33 => .op (.st 1 v33 v30) fun v34 => .op (.bin 0 .add v28 (AV.int .i64 1)) fun v35 => .op (.idx 7 x0 (g vs1 1)) fun v36 => .op (.fad 1 v36) fun v37 => .op (.fad 5 v37) fun v38 => .op (.ld1 v38) fun v39 => .op (.call n_laws_markAttrS [v39, v35]) fun v40 => .op (.bin 0 .add (g vs1 1) (AV.int .i64 1)) fun v41 => .leaf 0 [v40, v41]) (.leaf 2 [g vs1 0, g vs1 1])) fun t2 vs1 => tsel t2 1 (.leaf 1 vs1) (tsel t2 2 (.fin [.val (g vs1 0)]) .bad)
theorem c_laws_markItemS (x0 x1 : AV) : CC Tryz.prog n_laws_markItemS [x0, x1] (p_laws_markItemS x0 x1) := cc Tryz.func74 [0, 1, 5] (fun _ => []) (by kernel_rfl)
/- laws.heldItemS -/
def p_laws_heldItemS (x0 x1 : AV) : Prog := .loop [x1, AV.int .i64 0] (fun vs1 => .op (.len 0 x0) fun v3 => .op (.bin 0 .lss (g vs1 1) v3) fun v4 => .ite v4 (.op (.idx 7 x0 (g vs1 1)) fun v5 => .op (.fad 0 v5) fun v6 => .op (.ld1 v6) fun v7 => .op (.bin 0 .neq v7 (g vs1 0)) fun v8 => .ite v8 (.fin [.val (AV.int .i64 (-1))]) (.op (.bin 0 .add (g vs1 0) (AV.int .i64 1)) fun v9 => .op (.idx 7 x0 (g vs1 1)) fun v10 => .op (.fad 1 v10) fun v11 => .op (.fad 0 v11) fun v12 => .op (.ld1 v12) fun v13 => .op (.bin 0 .neq v13 v9) fun v14 => .ite v14 (.fin [.val (AV.int .i64 (-1))]) (.op (.bin 0 .add v9 (AV.int .i64 1)) fun v15 => .op (.idx 7 x0 (g vs1 1)) fun v16 => .op (.fad 1 v16) fun v17 => .op (.fad 1 v17) fun v18 => .op (.ld1 v18) fun v19 => .op (.bin 0 .neq v19 v15) fun v20 => .ite v20 (.fin [.val (AV.int .i64 (-1))]) (.op (.bin 0 .add v15 (AV.int .i64 1)) fun v21 => .op (.idx 7 x0 (g vs1 1)) fun v22 => .op (.fad 1 v22) fun v23 => .op (.fad 2 v23) fun v24 => .op (.ld1 v24) fun v25 => .op (.bin 0 .neq v25 v21) fun v26 => .ite v26 (.fin [.val (AV.int .i64 (-1))]) (.op (.bin 0 .add v21 (AV.int .i64 1)) fun v27 => .op (.idx 7 x0 (g vs1 1)) fun v28 => .op (.fad 1 v28) fun v29 => .op (.fad 3 v29) fun v30 => .op (.ld1 v30) fun v31 => .op (.bin 0 .neq v31 v27) fun v32 => .ite v32 (.fin [.val (AV.int .i64 (-1))]) (.op (.bin 0 .add v27 (AV.int .i64 1)) fun v33 => .op (.idx 7 x0 (g vs1 1)) fun v34 => .op (.fad 1 v34) fun v35 => .op (.fad 4 v35) fun v36 => .op (.ld1 v36) fun v37 => .op (.bin 0 .rem v33 (AV.int .i64 3)) fun v38 => .op (.bin 0 .eql v38 (AV.int .i64 0)) fun v39 => .op (.bin 2 .neq v37 v39) fun v40 => .ite v40 (.fin [.val (AV.int .i64 (-1))]) (.op (.bin 0 .add v33 (AV.int .i64 1)) fun v41 => .op (.idx 7 x0 (g vs1 1)) fun v42 => .op (.fad 1 v42) fun v43 => .op (.fad 5 v43) fun v44 => .op (.ld1 v44) fun v45 => .op (.call n_laws_heldAttrS [v45, v41]) fun v46 => .op (.bin 0 .lss v46 (AV.int .i64 0)) fun v47 => .ite v47 (.fin [.val (AV.int .i64 (-1))]) (.op (.bin 0 .add (g vs1 1) (AV.int .i64 1)) fun v48 => .leaf 0 [v46, v48])))))))) (.leaf 2 [g vs1 0, g vs1 1])) fun t2 vs1 => tsel t2 1 (.leaf 1 vs1) (tsel t2 2 (.fin [.val (g vs1 0)]) .bad)
theorem c_laws_heldItemS (x0 x1 : AV) : CC Tryz.prog n_laws_heldItemS [x0, x1] (p_laws_heldItemS x0 x1) := cc Tryz.func82 [0, 1, 5] (fun _ => []) (by kernel_rfl)
end
theorem s_laws_markItemS : MarkS Itm Tryz.prog n_laws_markItemS := fun xs v F n m h r o h0 h1 => c_laws_markItemS _ _ (Prog.awp_mono _ (pMark_spec (w := 7) rfl (ss := [([0], .i), ([1, 0], .i), ([1, 1], .i), ([1, 2], .i), ([1, 3], .i), ([1, 4], .b), ([1, 5], .l n_laws_markAttrS)]) (fun x _ => by simp [MOk, Fld.f, s_laws_markAttrS.x]) r o h0 h1) fun _ _ _ x => x)
theorem s_laws_heldItemS : HeldS Itm Tryz.prog n_laws_heldItemS := fun xs v F m h r h0 h1 => reader (c_laws_heldItemS _ _) (by simp only [old]) (pHeld_spec (w := 7) rfl (ss := [([0], .i), ([1, 0], .i), ([1, 1], .i), ([1, 2], .i), ([1, 3], .i), ([1, 4], .b), ([1, 5], .l n_laws_heldAttrS)]) (fun x _ => by simp [HOk, Fld.f, s_laws_heldAttrS.x]) r h0 h1)
end Go.Proofs.YtjnekdbdmoibgaaGreat
end
section
/- Task: marks. Written by mkm.py. -/
set_option linter.unusedSimpArgs false
set_option linter.unusedVariables false
set_option maxHeartbeats 1000000
namespace Go.Proofs.YtjnekdbdmoibgaaGreat
open Go Go.Ab
section
/- laws.markTaskS -/
def p_laws_markTaskS (x0 x1 : AV) : Prog := .loop [x1, AV.int .i64 0] (fun vs1 => .op (.len 0 x0) fun v3 => .op (.bin 0 .lss (g vs1 1) v3) fun v4 => .ite v4 (.op (.idx 12 x0 (g vs1 1)) fun v5 => .op (.fad 0 v5) fun v6 => .op (.st 1 v6 (g vs1 0)) fun v7 => .op (.bin 0 .add (g vs1 0) (AV.int .i64 1)) fun v8 => .op (.idx 12 x0 (g vs1 1)) fun v9 => .op (.fad 1 v9) fun v10 => .op (.st 1 v10 v8) fun v11 => .op (.bin 0 .add v8 (AV.int .i64 1)) fun v12 => .op (.idx 12 x0 (g vs1 1)) fun v13 => .op (.fad 2 v13) fun v14 => .op (.fad 0 v14) fun v15 => .op (.st 1 v15 v12) fun v16 => .op (.bin 0 .add v12 (AV.int .i64 1)) fun v17 => .op (.idx 12 x0 (g vs1 1)) fun v18 => .op (.fad 2 v18) fun v19 => .op (.fad 1 v19) fun v20 => .op (.st 1 v20 v17) fun v21 => .op (.bin 0 .add v17 (AV.int .i64 1)) fun v22 => .op (.idx 12 x0 (g vs1 1)) fun v23 => .op (.fad 2 v23) fun v24 => .op (.fad 2 v24) fun v25 => .op (.st 1 v25 v22) fun v26 => .op (.bin 0 .add v22 (AV.int .i64 1)) fun v27 => .op (.idx 12 x0 (g vs1 1)) fun v28 => .op (.fad 2 v28) fun v29 => .op (.fad 3 v29) fun v30 => .op (.st 1 v30 v27) fun v31 => .op (.bin 0 .add v27 (AV.int .i64 1)) fun v32 => .op (.bin 0 .rem v32 (AV.int .i64 3)) fun v33 => .op (.bin 0 .eql v33 (AV.int .i64 0)) fun v34 => .op (.idx 12 x0 (g vs1 1)) fun v35 => .op (.fad 2 v35) fun v36 => .op (.fad 4 v36) fun v37 => .op (.st 1 v37 v34) fun v38 => .op (.bin 0 .add v32 (AV.int .i64 1)) fun v39 => .op (.idx 12 x0 (g vs1 1)) fun v40 => .op (.fad 2 v40) fun v41 => .op (.fad 5 v41) fun v42 => .op (.ld1 v42) fun v43 => .op (.call n_laws_markAttrS [v43, v39]) fun v44 => .op (.idx 12 x0 (g vs1 1)) fun v45 => .op (.fad 8 v45) fun v46 => .op (.st 1 v46 v44) fun v47 => .op (.bin 0 .add v44 (AV.int .i64 1)) fun v48 => .op (.idx 12 x0 (g vs1 1)) fun v49 => .op (.fad 9 v49) fun v50 => .op (.st 1 v50 v48) fun v51 => .op (.bin 0 .add v48 (AV.int .i64 1)) fun v52 => .op (.idx 12 x0 (g vs1 1)) fun v53 => .op (.fad 10 v53) fun v54 => .op (.ld1 v54) fun v55 => .op (.call n_laws_markItemS [v55, v52]) fun v56 => .op (.idx 12 x0 (g vs1 1)) fun v57 => .op (.fad 11 v57) fun v58 => .op (.st 1 v58 v56) fun v59 => .op (.bin 0 .add v56 (AV.int .i64 1)) fun v60 => .op (.bin 0 .add (g vs1 1) (AV.int .i64 1)) fun v61 => .leaf 0 [v60, v61]) (.leaf 2 [g vs1 0, g vs1 1])) fun t2 vs1 => tsel t2 1 (.leaf 1 vs1) (tsel t2 2 (.fin [.val (g vs1 0)]) .bad)
theorem c_laws_markTaskS (x0 x1 : AV) : CC Tryz.prog n_laws_markTaskS [x0, x1] (p_laws_markTaskS x0 x1) := cc Tryz.func75 [0, 1, 5] (fun _ => []) (by kernel_rfl)
/- laws.heldTaskS -/
def p_laws_heldTaskS (x0 x1 : AV) : Prog := .loop [x1, AV.int .i64 0] (fun vs1 => .op (.len 0 x0) fun v3 => .op (.bin 0 .lss (g vs1 1) v3) fun v4 => .ite v4 (.op (.idx 12 x0 (g vs1 1)) fun v5 => .op (.fad 0 v5) fun v6 => .op (.ld1 v6) fun v7 => .op (.bin 0 .neq v7 (g vs1 0)) fun v8 => .ite v8 (.fin [.val (AV.int .i64 (-1))]) (.op (.bin 0 .add (g vs1 0) (AV.int .i64 1)) fun v9 => .op (.idx 12 x0 (g vs1 1)) fun v10 => .op (.fad 1 v10) fun v11 => .op (.ld1 v11) fun v12 => .op (.bin 0 .neq v12 v9) fun v13 => .ite v13 (.fin [.val (AV.int .i64 (-1))]) (.op (.bin 0 .add v9 (AV.int .i64 1)) fun v14 => .op (.idx 12 x0 (g vs1 1)) fun v15 => .op (.fad 2 v15) fun v16 => .op (.fad 0 v16) fun v17 => .op (.ld1 v17) fun v18 => .op (.bin 0 .neq v18 v14) fun v19 => .ite v19 (.fin [.val (AV.int .i64 (-1))]) (.op (.bin 0 .add v14 (AV.int .i64 1)) fun v20 => .op (.idx 12 x0 (g vs1 1)) fun v21 => .op (.fad 2 v21) fun v22 => .op (.fad 1 v22) fun v23 => .op (.ld1 v23) fun v24 => .op (.bin 0 .neq v24 v20) fun v25 => .ite v25 (.fin [.val (AV.int .i64 (-1))]) (.op (.bin 0 .add v20 (AV.int .i64 1)) fun v26 => .op (.idx 12 x0 (g vs1 1)) fun v27 => .op (.fad 2 v27) fun v28 => .op (.fad 2 v28) fun v29 => .op (.ld1 v29) fun v30 => .op (.bin 0 .neq v30 v26) fun v31 => .ite v31 (.fin [.val (AV.int .i64 (-1))]) (.op (.bin 0 .add v26 (AV.int .i64 1)) fun v32 => .op (.idx 12 x0 (g vs1 1)) fun v33 => .op (.fad 2 v33) fun v34 => .op (.fad 3 v34) fun v35 => .op (.ld1 v35) fun v36 => .op (.bin 0 .neq v36 v32) fun v37 => .ite v37 (.fin [.val (AV.int .i64 (-1))]) (.op (.bin 0 .add v32 (AV.int .i64 1)) fun v38 => .op (.idx 12 x0 (g vs1 1)) fun v39 => .op (.fad 2 v39) fun v40 => .op (.fad 4 v40) fun v41 => .op (.ld1 v41) fun v42 => .op (.bin 0 .rem v38 (AV.int .i64 3)) fun v43 => .op (.bin 0 .eql v43 (AV.int .i64 0)) fun v44 => .op (.bin 2 .neq v42 v44) fun v45 => .ite v45 (.fin [.val (AV.int .i64 (-1))]) (.op (.bin 0 .add v38 (AV.int .i64 1)) fun v46 => .op (.idx 12 x0 (g vs1 1)) fun v47 => .op (.fad 2 v47) fun v48 => .op (.fad 5 v48) fun v49 => .op (.ld1 v49) fun v50 => .op (.call n_laws_heldAttrS [v50, v46]) fun v51 => .op (.bin 0 .lss v51 (AV.int .i64 0)) fun v52 => .ite v52 (.fin [.val (AV.int .i64 (-1))]) (.op (.idx 12 x0 (g vs1 1)) fun v53 => .op (.fad 8 v53) fun v54 => .op (.ld1 v54) fun v55 => .op (.bin 0 .neq v55 v51) fun v56 => .ite v56 (.fin [.val (AV.int .i64 (-1))]) (.op (.bin 0 .add v51 (AV.int .i64 1)) fun v57 => .op (.idx 12 x0 (g vs1 1)) fun v58 => .op (.fad 9 v58) fun v59 => .op (.ld1 v59) fun v60 => .op (.bin 0 .neq v60 v57) fun v61 => .ite v61 (.fin [.val (AV.int .i64 (-1))]) (.op (.bin 0 .add v57 (AV.int .i64 1)) fun v62 => .op (.idx 12 x0 (g vs1 1)) fun v63 => .op (.fad 10 v63) fun v64 => .op (.ld1 v64) fun v65 => .op (.call n_laws_heldItemS [v65, v62]) fun v66 => .op (.bin 0 .lss v66 (AV.int .i64 0)) fun v67 => .ite v67 (.fin [.val (AV.int .i64 (-1))]) (.op (.idx 12 x0 (g vs1 1)) fun v68 => .op (.fad 11 v68) fun v69 => .op (.ld1 v69) fun v70 => .op (.bin 0 .neq v70 v66) fun v71 => .ite v71 (.fin [.val (AV.int .i64 (-1))]) (.op (.bin 0 .add v66 (AV.int .i64 1)) fun v72 => .op (.bin 0 .add (g vs1 1) (AV.int .i64 1)) fun v73 => .leaf 0 [v72, v73]))))))))))))) (.leaf 2 [g vs1 0, g vs1 1])) fun t2 vs1 => tsel t2 1 (.leaf 1 vs1) (tsel t2 2 (.fin [.val (g vs1 0)]) .bad)
theorem c_laws_heldTaskS (x0 x1 : AV) : CC Tryz.prog n_laws_heldTaskS [x0, x1] (p_laws_heldTaskS x0 x1) := cc Tryz.func83 [0, 1, 5] (fun _ => []) (by kernel_rfl)
end
theorem s_laws_markTaskS : MarkS Task Tryz.prog n_laws_markTaskS := fun xs v F n m h r o h0 h1 => c_laws_markTaskS _ _ (Prog.awp_mono _ (pMark_spec (w := 12) rfl (ss := [([0], .i), ([1], .i), ([2, 0], .i), ([2, 1], .i), ([2, 2], .i), ([2, 3], .i), ([2, 4], .b), ([2, 5], .l n_laws_markAttrS), ([8], .i), ([9], .i), ([10], .l n_laws_markItemS), ([11], .i)]) (fun x _ => by simp [MOk, Fld.f, s_laws_markAttrS.x, s_laws_markItemS.x]) r o h0 h1) fun _ _ _ x => x)
theorem s_laws_heldTaskS : HeldS Task Tryz.prog n_laws_heldTaskS := fun xs v F m h r h0 h1 => reader (c_laws_heldTaskS _ _) (by simp only [old]) (pHeld_spec (w := 12) rfl (ss := [([0], .i), ([1], .i), ([2, 0], .i), ([2, 1], .i), ([2, 2], .i), ([2, 3], .i), ([2, 4], .b), ([2, 5], .l n_laws_heldAttrS), ([8], .i), ([9], .i), ([10], .l n_laws_heldItemS), ([11], .i)]) (fun x _ => by simp [HOk, Fld.f, s_laws_heldAttrS.x, s_laws_heldItemS.x]) r h0 h1)
end Go.Proofs.YtjnekdbdmoibgaaGreat
end
section
/- Deed: marks. Written by mkm.py. -/
set_option linter.unusedSimpArgs false
set_option linter.unusedVariables false
set_option maxHeartbeats 1000000
namespace Go.Proofs.YtjnekdbdmoibgaaGreat
open Go Go.Ab
section
/- laws.markDeedS -/
def p_laws_markDeedS (x0 x1 : AV) : Prog := .loop [x1, AV.int .i64 0] (fun vs1 => .op (.len 0 x0) fun v3 => .op (.bin 0 .lss (g vs1 1) v3) fun v4 => .ite v4 (.op (.idx 20 x0 (g vs1 1)) fun v5 => .op (.fad 0 v5) fun v6 => .op (.st 1 v6 (g vs1 0)) fun v7 => .op (.bin 0 .add (g vs1 0) (AV.int .i64 1)) fun v8 => .op (.idx 20 x0 (g vs1 1)) fun v9 => .op (.fad 1 v9) fun v10 => .op (.st 1 v10 v8) fun v11 => .op (.bin 0 .add v8 (AV.int .i64 1)) fun v12 => .op (.idx 20 x0 (g vs1 1)) fun v13 => .op (.fad 2 v13) fun v14 => .op (.fad 0 v14) fun v15 => .op (.st 1 v15 v12) fun v16 => .op (.bin 0 .add v12 (AV.int .i64 1)) fun v17 => .op (.idx 20 x0 (g vs1 1)) fun v18 => .op (.fad 2 v18) fun v19 => .op (.fad 1 v19) fun v20 => .op (.st 1 v20 v17) fun v21 => .op (.bin 0 .add v17 (AV.int .i64 1)) fun v22 => .op (.idx 20 x0 (g vs1 1)) fun v23 => .op (.fad 2 v23) fun v24 => .op (.fad 2 v24) fun v25 => .op (.st 1 v25 v22) fun v26 => .op (.bin 0 .add v22 (AV.int .i64 1)) fun v27 => .op (.idx 20 x0 (g vs1 1)) fun v28 => .op (.fad 2 v28) fun v29 => .op (.fad 3 v29) fun v30 => .op (.st 1 v30 v27) fun v31 => .op (.bin 0 .add v27 (AV.int .i64 1)) fun v32 => .op (.bin 0 .rem v32 (AV.int .i64 3)) fun v33 => .op (.bin 0 .eql v33 (AV.int .i64 0)) fun v34 => .op (.idx 20 x0 (g vs1 1)) fun v35 => .op (.fad 2 v35) fun v36 => .op (.fad 4 v36) fun v37 => .op (.st 1 v37 v34) fun v38 => .op (.bin 0 .add v32 (AV.int .i64 1)) fun v39 => .op (.idx 20 x0 (g vs1 1)) fun v40 => .op (.fad 2 v40) fun v41 => .op (.fad 5 v41) fun v42 => .op (.ld1 v42) fun v43 => .op (.call n_laws_markAttrS [v43, v39]) fun v44 => .op (.idx 20 x0 (g vs1 1)) fun v45 => .op (.fad 8 v45) fun v46 => .op (.st 1 v46 v44) fun v47 => .op (.bin 0 .add v44 (AV.int .i64 1)) fun v48 => .op (.idx 20 x0 (g vs1 1)) fun v49 => .op (.fad 9 v49) fun v50 => .op (.st 1 v50 v48) fun v51 => .op (.bin 0 .add v48 (AV.int .i64 1)) fun v52 => .op (.idx 20 x0 (g vs1 1)) fun v53 => .op (.fad 10 v53) fun v54 => .op (.st 1 v54 v52) fun v55 => .op (.bin 0 .add v52 (AV.int .i64 1)) fun v56 => .op (.bin 0 .rem v56 (AV.int .i64 3)) fun v57 => .op (.bin 0 .eql v57 (AV.int .i64 0)) fun v58 => .op (.idx 20 x0 (g vs1 1)) fun v59 => .op (.fad 11 v59) fun v60 => .op (.st 1 v60 v58) fun v61 => .op (.bin 0 .add v56 (AV.int .i64 1)) fun v62 => .op (.bin 0 .rem v62 (AV.int .i64 3)) fun v63 => .op (.bin 0 .eql v63 (AV.int .i64 0)) fun v64 => .op (.idx 20 x0 (g vs1 1)) fun v65 => .op (.fad 12 v65) fun v66 => .op (.st 1 v66 v64) fun v67 => .op (.bin 0 .add v62 (AV.int .i64 1)) fun v68 => .op (.idx 20 x0 (g vs1 1)) fun v69 => .op (.fad 13 v69) fun v70 => .op (.st 1 v70 v68) fun v71 => .op (.bin 0 .add v68 (AV.int .i64 1)) fun v72 => .op (.idx 20 x0 (g vs1 1)) fun v73 => .op (.fad 14 v73) fun v74 => .op (.st 1 v74 v72) fun v75 => .op (.bin 0 .add v72 (AV.int .i64 1)) fun v76 => .op (.idx 20 x0 (g vs1 1)) fun v77 => .op (.fad 15 v77) fun v78 => .op (.st 1 v78 v76) fun v79 => .op (.bin 0 .add v76 (AV.int .i64 1)) fun v80 => .op (.idx 20 x0 (g vs1 1)) fun v81 => .op (.fad 16 v81) fun v82 => .op (.st 1 v82 v80) fun v83 => .op (.bin 0 .add v80 (AV.int .i64 1)) fun v84 => .op (.idx 20 x0 (g vs1 1)) fun v85 => .op (.fad 17 v85) fun v86 => .op (.st 1 v86 v84) fun v87 => .op (.bin 0 .add v84 (AV.int .i64 1)) fun v88 => .op (.idx 20 x0 (g vs1 1)) fun v89 => .op (.fad 18 v89) fun v90 => .op (.st 1 v90 v88) fun v91 => .op (.bin 0 .add v88 (AV.int .i64 1)) fun v92 => .op (.idx 20 x0 (g vs1 1)) fun v93 => .op (.fad 19 v93) fun v94 => .op (.st 1 v94 v92) fun v95 => .op (.bin 0 .add v92 (AV.int .i64 1)) fun v96 => .op (.bin 0 .add (g vs1 1) (AV.int .i64 1)) fun v97 => .leaf 0 [v96, v97]) (.leaf 2 [g vs1 0, g vs1 1])) fun t2 vs1 => tsel t2 1 (.leaf 1 vs1) (tsel t2 2 (.fin [.val (g vs1 0)]) .bad)
theorem c_laws_markDeedS (x0 x1 : AV) : CC Tryz.prog n_laws_markDeedS [x0, x1] (p_laws_markDeedS x0 x1) := cc Tryz.func76 [0, 1, 5] (fun _ => []) (by kernel_rfl)
/- laws.heldDeedS -/
def p_laws_heldDeedS (x0 x1 : AV) : Prog := .loop [x1, AV.int .i64 0] (fun vs1 => .op (.len 0 x0) fun v3 => .op (.bin 0 .lss (g vs1 1) v3) fun v4 => .ite v4 (.op (.idx 20 x0 (g vs1 1)) fun v5 => .op (.fad 0 v5) fun v6 => .op (.ld1 v6) fun v7 => .op (.bin 0 .neq v7 (g vs1 0)) fun v8 => .ite v8 (.fin [.val (AV.int .i64 (-1))]) (.op (.bin 0 .add (g vs1 0) (AV.int .i64 1)) fun v9 => .op (.idx 20 x0 (g vs1 1)) fun v10 => .op (.fad 1 v10) fun v11 => .op (.ld1 v11) fun v12 => .op (.bin 0 .neq v12 v9) fun v13 => .ite v13 (.fin [.val (AV.int .i64 (-1))]) (.op (.bin 0 .add v9 (AV.int .i64 1)) fun v14 => .op (.idx 20 x0 (g vs1 1)) fun v15 => .op (.fad 2 v15) fun v16 => .op (.fad 0 v16) fun v17 => .op (.ld1 v17) fun v18 => .op (.bin 0 .neq v18 v14) fun v19 => .ite v19 (.fin [.val (AV.int .i64 (-1))]) (.op (.bin 0 .add v14 (AV.int .i64 1)) fun v20 => .op (.idx 20 x0 (g vs1 1)) fun v21 => .op (.fad 2 v21) fun v22 => .op (.fad 1 v22) fun v23 => .op (.ld1 v23) fun v24 => .op (.bin 0 .neq v24 v20) fun v25 => .ite v25 (.fin [.val (AV.int .i64 (-1))]) (.op (.bin 0 .add v20 (AV.int .i64 1)) fun v26 => .op (.idx 20 x0 (g vs1 1)) fun v27 => .op (.fad 2 v27) fun v28 => .op (.fad 2 v28) fun v29 => .op (.ld1 v29) fun v30 => .op (.bin 0 .neq v30 v26) fun v31 => .ite v31 (.fin [.val (AV.int .i64 (-1))]) (.op (.bin 0 .add v26 (AV.int .i64 1)) fun v32 => .op (.idx 20 x0 (g vs1 1)) fun v33 => .op (.fad 2 v33) fun v34 => .op (.fad 3 v34) fun v35 => .op (.ld1 v35) fun v36 => .op (.bin 0 .neq v36 v32) fun v37 => .ite v37 (.fin [.val (AV.int .i64 (-1))]) (.op (.bin 0 .add v32 (AV.int .i64 1)) fun v38 => .op (.idx 20 x0 (g vs1 1)) fun v39 => .op (.fad 2 v39) fun v40 => .op (.fad 4 v40) fun v41 => .op (.ld1 v41) fun v42 => .op (.bin 0 .rem v38 (AV.int .i64 3)) fun v43 => .op (.bin 0 .eql v43 (AV.int .i64 0)) fun v44 => .op (.bin 2 .neq v42 v44) fun v45 => .ite v45 (.fin [.val (AV.int .i64 (-1))]) (.op (.bin 0 .add v38 (AV.int .i64 1)) fun v46 => .op (.idx 20 x0 (g vs1 1)) fun v47 => .op (.fad 2 v47) fun v48 => .op (.fad 5 v48) fun v49 => .op (.ld1 v49) fun v50 => .op (.call n_laws_heldAttrS [v50, v46]) fun v51 => .op (.bin 0 .lss v51 (AV.int .i64 0)) fun v52 => .ite v52 (.fin [.val (AV.int .i64 (-1))]) (.op (.idx 20 x0 (g vs1 1)) fun v53 => .op (.fad 8 v53) fun v54 => .op (.ld1 v54) fun v55 => .op (.bin 0 .neq v55 v51) fun v56 => .ite v56 (.fin [.val (AV.int .i64 (-1))]) (.op (.bin 0 .add v51 (AV.int .i64 1)) fun v57 => .op (.idx 20 x0 (g vs1 1)) fun v58 => .op (.fad 9 v58) fun v59 => .op (.ld1 v59) fun v60 => .op (.bin 0 .neq v60 v57) fun v61 => .ite v61 (.fin [.val (AV.int .i64 (-1))]) (.op (.bin 0 .add v57 (AV.int .i64 1)) fun v62 => .op (.idx 20 x0 (g vs1 1)) fun v63 => .op (.fad 10 v63) fun v64 => .op (.ld1 v64) fun v65 => .op (.bin 0 .neq v65 v62) fun v66 => .ite v66 (.fin [.val (AV.int .i64 (-1))]) (.op (.bin 0 .add v62 (AV.int .i64 1)) fun v67 => .op (.idx 20 x0 (g vs1 1)) fun v68 => .op (.fad 11 v68) fun v69 => .op (.ld1 v69) fun v70 => .op (.bin 0 .rem v67 (AV.int .i64 3)) fun v71 => .op (.bin 0 .eql v71 (AV.int .i64 0)) fun v72 => .op (.bin 2 .neq v70 v72) fun v73 => .ite v73 (.fin [.val (AV.int .i64 (-1))]) (.op (.bin 0 .add v67 (AV.int .i64 1)) fun v74 => .op (.idx 20 x0 (g vs1 1)) fun v75 => .op (.fad 12 v75) fun v76 => .op (.ld1 v76) fun v77 => .op (.bin 0 .rem v74 (AV.int .i64 3)) fun v78 => .op (.bin 0 .eql v78 (AV.int .i64 0)) fun v79 => .op (.bin 2 .neq v77 v79) fun v80 => .ite v80 (.fin [.val (AV.int .i64 (-1))]) (.op (.bin 0 .add v74 (AV.int .i64 1)) fun v81 => .op (.idx 20 x0 (g vs1 1)) fun v82 => .op (.fad 13 v82) fun v83 => .op (.ld1 v83) fun v84 => .op (.bin 0 .neq v84 v81) fun v85 => .ite v85 (.fin [.val (AV.int .i64 (-1))]) (.op (.bin 0 .add v81 (AV.int .i64 1)) fun v86 => .op (.idx 20 x0 (g vs1 1)) fun v87 => .op (.fad 14 v87) fun v88 => .op (.ld1 v88) fun v89 => .op (.bin 0 .neq v89 v86) fun v90 => .ite v90 (.fin [.val (AV.int .i64 (-1))]) (.op (.bin 0 .add v86 (AV.int .i64 1)) fun v91 => .op (.idx 20 x0 (g vs1 1)) fun v92 => .op (.fad 15 v92) fun v93 => .op (.ld1 v93) fun v94 => .op (.bin 0 .neq v94 v91) fun v95 => .ite v95 (.fin [.val (AV.int .i64 (-1))]) (.op (.bin 0 .add v91 (AV.int .i64 1)) fun v96 => .op (.idx 20 x0 (g vs1 1)) fun v97 => .op (.fad 16 v97) fun v98 => .op (.ld1 v98) fun v99 => .op (.bin 0 .neq v99 v96) fun v100 => .ite v100 (.fin [.val (AV.int .i64 (-1))]) (.op (.bin 0 .add v96 (AV.int .i64 1)) fun v101 => .op (.idx 20 x0 (g vs1 1)) fun v102 => .op (.fad 17 v102) fun v103 => .op (.ld1 v103) fun v104 => .op (.bin 0 .neq v104 v101) fun v105 => .ite v105 (.fin [.val (AV.int .i64 (-1))]) (.op (.bin 0 .add v101 (AV.int .i64 1)) fun v106 => .op (.idx 20 x0 (g vs1 1)) fun v107 => .op (.fad 18 v107) fun v108 => .op (.ld1 v108) fun v109 => .op (.bin 0 .neq v109 v106) fun v110 => .ite v110 (.fin [.val (AV.int .i64 (-1))]) (.op (.bin 0 .add v106 (AV.int .i64 1)) fun v111 => .op (.idx 20 x0 (g vs1 1)) fun v112 => .op (.fad 19 v112) fun v113 => .op (.ld1 v113) fun v114 => .op (.bin 0 .neq v114 v111) fun v115 => .ite v115 (.fin [.val (AV.int .i64 (-1))]) (.op (.bin 0 .add v111 (AV.int .i64 1)) fun v116 => .op (.bin 0 .add (g vs1 1) (AV.int .i64 1)) fun v117 => .leaf 0 [v116, v117]))))))))))))))))))))) (.leaf 2 [g vs1 0, g vs1 1])) fun t2 vs1 => tsel t2 1 (.leaf 1 vs1) (tsel t2 2 (.fin [.val (g vs1 0)]) .bad)
theorem c_laws_heldDeedS (x0 x1 : AV) : CC Tryz.prog n_laws_heldDeedS [x0, x1] (p_laws_heldDeedS x0 x1) := cc Tryz.func84 [0, 1, 5] (fun _ => []) (by kernel_rfl)
end
theorem s_laws_markDeedS : MarkS Deed Tryz.prog n_laws_markDeedS := fun xs v F n m h r o h0 h1 => c_laws_markDeedS _ _ (Prog.awp_mono _ (pMark_spec (w := 20) rfl (ss := [([0], .i), ([1], .i), ([2, 0], .i), ([2, 1], .i), ([2, 2], .i), ([2, 3], .i), ([2, 4], .b), ([2, 5], .l n_laws_markAttrS), ([8], .i), ([9], .i), ([10], .i), ([11], .b), ([12], .b), ([13], .i), ([14], .i), ([15], .i), ([16], .i), ([17], .i), ([18], .i), ([19], .i)]) (fun x _ => by simp [MOk, Fld.f, s_laws_markAttrS.x]) r o h0 h1) fun _ _ _ x => x)
theorem s_laws_heldDeedS : HeldS Deed Tryz.prog n_laws_heldDeedS := fun xs v F m h r h0 h1 => reader (c_laws_heldDeedS _ _) (by simp only [old]) (pHeld_spec (w := 20) rfl (ss := [([0], .i), ([1], .i), ([2, 0], .i), ([2, 1], .i), ([2, 2], .i), ([2, 3], .i), ([2, 4], .b), ([2, 5], .l n_laws_heldAttrS), ([8], .i), ([9], .i), ([10], .i), ([11], .b), ([12], .b), ([13], .i), ([14], .i), ([15], .i), ([16], .i), ([17], .i), ([18], .i), ([19], .i)]) (fun x _ => by simp [HOk, Fld.f, s_laws_heldAttrS.x]) r h0 h1)
end Go.Proofs.YtjnekdbdmoibgaaGreat
end
section
/- Timer: marks. Written by mkm.py. -/
set_option linter.unusedSimpArgs false
set_option linter.unusedVariables false
set_option maxHeartbeats 1000000
namespace Go.Proofs.YtjnekdbdmoibgaaGreat
open Go Go.Ab
section
/- laws.markTimerS -/
def p_laws_markTimerS (x0 x1 : AV) : Prog := .loop [x1, AV.int .i64 0] (fun vs1 => .op (.len 0 x0) fun v3 => .op (.bin 0 .lss (g vs1 1) v3) fun v4 => .ite v4 (.op (.idx 3 x0 (g vs1 1)) fun v5 => .op (.fad 0 v5) fun v6 => .op (.st 1 v6 (g vs1 0)) fun v7 => .op (.bin 0 .add (g vs1 0) (AV.int .i64 1)) fun v8 => .op (.idx 3 x0 (g vs1 1)) fun v9 => .op (.fad 1 v9) fun v10 => .op (.st 1 v10 v8) fun v11 => .op (.bin 0 .add v8 (AV.int .i64 1)) fun v12 => .op (.idx 3 x0 (g vs1 1)) fun v13 => .op (.fad 2 v13) fun v14 => .op (.st 1 v14 v12) fun v15 => .op (.bin 0 .add v12 (AV.int .i64 1)) fun v16 => .op (.bin 0 .add (g vs1 1) (AV.int .i64 1)) fun v17 => .leaf 0 [v16, v17]) (.leaf 2 [g vs1 0, g vs1 1])) fun t2 vs1 => tsel t2 1 (.leaf 1 vs1) (tsel t2 2 (.fin [.val (g vs1 0)]) .bad)
theorem c_laws_markTimerS (x0 x1 : AV) : CC Tryz.prog n_laws_markTimerS [x0, x1] (p_laws_markTimerS x0 x1) := cc Tryz.func73 [0, 1, 5] (fun _ => []) (by kernel_rfl)
/- laws.heldTimerS -/
def p_laws_heldTimerS (x0 x1 : AV) : Prog := .loop [x1, AV.int .i64 0] (fun vs1 => .op (.len 0 x0) fun v3 => .op (.bin 0 .lss (g vs1 1) v3) fun v4 => .ite v4 (.op (.idx 3 x0 (g vs1 1)) fun v5 => .op (.fad 0 v5) fun v6 => .op (.ld1 v6) fun v7 => .op (.bin 0 .neq v7 (g vs1 0)) fun v8 => .ite v8 (.fin [.val (AV.int .i64 (-1))]) (.op (.bin 0 .add (g vs1 0) (AV.int .i64 1)) fun v9 => .op (.idx 3 x0 (g vs1 1)) fun v10 => .op (.fad 1 v10) fun v11 => .op (.ld1 v11) fun v12 => .op (.bin 0 .neq v12 v9) fun v13 => .ite v13 (.fin [.val (AV.int .i64 (-1))]) (.op (.bin 0 .add v9 (AV.int .i64 1)) fun v14 => .op (.idx 3 x0 (g vs1 1)) fun v15 => .op (.fad 2 v15) fun v16 => .op (.ld1 v16) fun v17 => .op (.bin 0 .neq v17 v14) fun v18 => .ite v18 (.fin [.val (AV.int .i64 (-1))]) (.op (.bin 0 .add v14 (AV.int .i64 1)) fun v19 => .op (.bin 0 .add (g vs1 1) (AV.int .i64 1)) fun v20 => .leaf 0 [v19, v20])))) (.leaf 2 [g vs1 0, g vs1 1])) fun t2 vs1 => tsel t2 1 (.leaf 1 vs1) (tsel t2 2 (.fin [.val (g vs1 0)]) .bad)
theorem c_laws_heldTimerS (x0 x1 : AV) : CC Tryz.prog n_laws_heldTimerS [x0, x1] (p_laws_heldTimerS x0 x1) := cc Tryz.func81 [0, 1, 5] (fun _ => []) (by kernel_rfl)
end
theorem s_laws_markTimerS : MarkS Ab.Timer Tryz.prog n_laws_markTimerS := fun xs v F n m h r o h0 h1 => c_laws_markTimerS _ _ (Prog.awp_mono _ (pMark_spec (w := 3) rfl (ss := [([0], .i), ([1], .i), ([2], .i)]) (fun x _ => by simp [MOk, Fld.f]) r o h0 h1) fun _ _ _ x => x)
theorem s_laws_heldTimerS : HeldS Ab.Timer Tryz.prog n_laws_heldTimerS := fun xs v F m h r h0 h1 => reader (c_laws_heldTimerS _ _) (by simp only [old]) (pHeld_spec (w := 3) rfl (ss := [([0], .i), ([1], .i), ([2], .i)]) (fun x _ => by simp [HOk, Fld.f]) r h0 h1)
end Go.Proofs.YtjnekdbdmoibgaaGreat
end
section
/- Verdict: marks. Written by mkm.py. -/
set_option linter.unusedSimpArgs false
set_option linter.unusedVariables false
set_option maxHeartbeats 1000000
namespace Go.Proofs.YtjnekdbdmoibgaaGreat
open Go Go.Ab
section
/- laws.markVerdictS -/
def p_laws_markVerdictS (x0 x1 : AV) : Prog := .loop [x1, AV.int .i64 0] (fun vs1 => .op (.len 0 x0) fun v3 => .op (.bin 0 .lss (g vs1 1) v3) fun v4 => .ite v4 (.op (.idx 3 x0 (g vs1 1)) fun v5 => .op (.fad 0 v5) fun v6 => .op (.st 1 v6 (g vs1 0)) fun v7 => .op (.bin 0 .add (g vs1 0) (AV.int .i64 1)) fun v8 => .op (.idx 3 x0 (g vs1 1)) fun v9 => .op (.fad 1 v9) fun v10 => .op (.st 1 v10 v8) fun v11 => .op (.bin 0 .add v8 (AV.int .i64 1)) fun v12 => .op (.bin 0 .rem v12 (AV.int .i64 3)) fun v13 => .op (.bin 0 .eql v13 (AV.int .i64 0)) fun v14 => .op (.idx 3 x0 (g vs1 1)) fun v15 => .op (.fad 2 v15) fun v16 => .op (.st 1 v16 v14) fun v17 => .op (.bin 0 .add v12 (AV.int .i64 1)) fun v18 => .op (.bin 0 .add (g vs1 1) (AV.int .i64 1)) fun v19 => .leaf 0 [v18, v19]) (.leaf 2 [g vs1 0, g vs1 1])) fun t2 vs1 => tsel t2 1 (.leaf 1 vs1) (tsel t2 2 (.fin [.val (g vs1 0)]) .bad)
theorem c_laws_markVerdictS (x0 x1 : AV) : CC Tryz.prog n_laws_markVerdictS [x0, x1] (p_laws_markVerdictS x0 x1) := cc Tryz.func71 [0, 1, 5] (fun _ => []) (by kernel_rfl)
/- laws.heldVerdictS -/
def p_laws_heldVerdictS (x0 x1 : AV) : Prog := .loop [x1, AV.int .i64 0] (fun vs1 => .op (.len 0 x0) fun v3 => .op (.bin 0 .lss (g vs1 1) v3) fun v4 => .ite v4 (.op (.idx 3 x0 (g vs1 1)) fun v5 => .op (.fad 0 v5) fun v6 => .op (.ld1 v6) fun v7 => .op (.bin 0 .neq v7 (g vs1 0)) fun v8 => .ite v8 (.fin [.val (AV.int .i64 (-1))]) (.op (.bin 0 .add (g vs1 0) (AV.int .i64 1)) fun v9 => .op (.idx 3 x0 (g vs1 1)) fun v10 => .op (.fad 1 v10) fun v11 => .op (.ld1 v11) fun v12 => .op (.bin 0 .neq v12 v9) fun v13 => .ite v13 (.fin [.val (AV.int .i64 (-1))]) (.op (.bin 0 .add v9 (AV.int .i64 1)) fun v14 => .op (.idx 3 x0 (g vs1 1)) fun v15 => .op (.fad 2 v15) fun v16 => .op (.ld1 v16) fun v17 => .op (.bin 0 .rem v14 (AV.int .i64 3)) fun v18 => .op (.bin 0 .eql v18 (AV.int .i64 0)) fun v19 => .op (.bin 2 .neq v17 v19) fun v20 => .ite v20 (.fin [.val (AV.int .i64 (-1))]) (.op (.bin 0 .add v14 (AV.int .i64 1)) fun v21 => .op (.bin 0 .add (g vs1 1) (AV.int .i64 1)) fun v22 => .leaf 0 [v21, v22])))) (.leaf 2 [g vs1 0, g vs1 1])) fun t2 vs1 => tsel t2 1 (.leaf 1 vs1) (tsel t2 2 (.fin [.val (g vs1 0)]) .bad)
theorem c_laws_heldVerdictS (x0 x1 : AV) : CC Tryz.prog n_laws_heldVerdictS [x0, x1] (p_laws_heldVerdictS x0 x1) := cc Tryz.func79 [0, 1, 5] (fun _ => []) (by kernel_rfl)
end
theorem s_laws_markVerdictS : MarkS Verdict Tryz.prog n_laws_markVerdictS := fun xs v F n m h r o h0 h1 => c_laws_markVerdictS _ _ (Prog.awp_mono _ (pMark_spec (w := 3) rfl (ss := [([0], .i), ([1], .i), ([2], .b)]) (fun x _ => by simp [MOk, Fld.f]) r o h0 h1) fun _ _ _ x => x)
theorem s_laws_heldVerdictS : HeldS Verdict Tryz.prog n_laws_heldVerdictS := fun xs v F m h r h0 h1 => reader (c_laws_heldVerdictS _ _) (by simp only [old]) (pHeld_spec (w := 3) rfl (ss := [([0], .i), ([1], .i), ([2], .b)]) (fun x _ => by simp [HOk, Fld.f]) r h0 h1)
end Go.Proofs.YtjnekdbdmoibgaaGreat
end
section
/- Marks of rules, set-ups, wheels and worlds. Written by mkmw.py. -/
set_option linter.unusedSimpArgs false
set_option linter.unusedVariables false
set_option maxHeartbeats 8000000
namespace Go.Proofs.YtjnekdbdmoibgaaGreat
open Go Go.Ab
section
/- laws.markPolS -/
def p_laws_markPolS (x0 x1 : AV) : Prog := .loop [x1, AV.int .i64 0] (fun vs1 => .op (.len 0 x0) fun v3 => .op (.bin 0 .lss (g vs1 1) v3) fun v4 => .ite v4 (.op (.idx 5 x0 (g vs1 1)) fun v5 => .op (.fad 0 v5) fun v6 => .op (.st 1 v6 (g vs1 0)) fun v7 => .op (.bin 0 .add (g vs1 0) (AV.int .i64 1)) fun v8 => .op (.idx 5 x0 (g vs1 1)) fun v9 => .op (.fad 1 v9) fun v10 => .op (.st 1 v10 v8) fun v11 => .op (.bin 0 .add v8 (AV.int .i64 1)) fun v12 => .op (.call n_laws_markText [v12]) fun v13 => .op (.idx 5 x0 (g vs1 1)) fun v14 => .op (.fad 2 v14) fun v15 => .op (.st 1 v15 v13) fun v16 => .op (.bin 0 .add v12 (AV.int .i64 1)) fun v17 => .op (.call n_laws_markText [v17]) fun v18 => .op (.idx 5 x0 (g vs1 1)) fun v19 => .op (.fad 3 v19) fun v20 => .op (.st 1 v20 v18) fun v21 => .op (.bin 0 .add v17 (AV.int .i64 1)) fun v22 => .op (.idx 5 x0 (g vs1 1)) fun v23 => .op (.fad 4 v23) fun v24 => .op (.ld1 v24) fun v25 => .op (.call n_laws_markPolS [v25, v22]) fun v26 => .op (.bin 0 .add (g vs1 1) (AV.int .i64 1)) fun v27 => .leaf 0 [v26, v27]) (.leaf 2 [g vs1 0, g vs1 1])) fun t2 vs1 => tsel t2 1 (.leaf 1 vs1) (tsel t2 2 (.fin [.val (g vs1 0)]) .bad)
theorem c_laws_markPolS (x0 x1 : AV) : CC Tryz.prog n_laws_markPolS [x0, x1] (p_laws_markPolS x0 x1) := cc Tryz.func242 [0, 1, 5] (fun _ => []) (by kernel_rfl)
/- laws.heldPolS -/
def p_laws_heldPolS (x0 x1 : AV) : Prog := .loop [x1, AV.int .i64 0] (fun vs1 => .op (.len 0 x0) fun v3 => .op (.bin 0 .lss (g vs1 1) v3) fun v4 => .ite v4 (.op (.idx 5 x0 (g vs1 1)) fun v5 => .op (.fad 0 v5) fun v6 => .op (.ld1 v6) fun v7 => .op (.bin 0 .neq v7 (g vs1 0)) fun v8 => .ite v8 (.fin [.val (AV.int .i64 (-1))]) (.op (.bin 0 .add (g vs1 0) (AV.int .i64 1)) fun v9 => .op (.idx 5 x0 (g vs1 1)) fun v10 => .op (.fad 1 v10) fun v11 => .op (.ld1 v11) fun v12 => .op (.bin 0 .neq v12 v9) fun v13 => .ite v13 (.fin [.val (AV.int .i64 (-1))]) (.op (.bin 0 .add v9 (AV.int .i64 1)) fun v14 => .op (.idx 5 x0 (g vs1 1)) fun v15 => .op (.fad 2 v15) fun v16 => .op (.ld1 v16) fun v17 => .op (.call n_laws_markText [v14]) fun v18 => .chk (.ld1 v16) v17 (.op (.bin 1 .neq v17 v18) fun v19 => .ite v19 (.fin [.val (AV.int .i64 (-1))]) (.op (.bin 0 .add v14 (AV.int .i64 1)) fun v20 => .op (.idx 5 x0 (g vs1 1)) fun v21 => .op (.fad 3 v21) fun v22 => .op (.ld1 v22) fun v23 => .op (.call n_laws_markText [v20]) fun v24 => .chk (.ld1 v22) v23 (.op (.bin 1 .neq v23 v24) fun v25 => .ite v25 (.fin [.val (AV.int .i64 (-1))]) (.op (.bin 0 .add v20 (AV.int .i64 1)) fun v26 => .op (.idx 5 x0 (g vs1 1)) fun v27 => .op (.fad 4 v27) fun v28 => .op (.ld1 v28) fun v29 => .op (.call n_laws_heldPolS [v29, v26]) fun v30 => .op (.bin 0 .lss v30 (AV.int .i64 0)) fun v31 => .ite v31 (.fin [.val (AV.int .i64 (-1))]) (.op (.bin 0 .add (g vs1 1) (AV.int .i64 1)) fun v32 => .leaf 0 [v30, v32])))))))) (.leaf 2 [g vs1 0, g vs1 1])) fun t2 vs1 => tsel t2 1 (.leaf 1 vs1) (tsel t2 2 (.fin [.val (g vs1 0)]) .bad)
theorem c_laws_heldPolS (x0 x1 : AV) : CC Tryz.prog n_laws_heldPolS [x0, x1] (p_laws_heldPolS x0 x1) := cc Tryz.func244 [0, 1, 5] (fun r => if r = 10 then [(0, []), (1, []), (2, []), (3, []), (4, []), (5, []), (6, [4]), (7, [])] else if r = 13 then [(0, []), (1, []), (2, []), (3, []), (4, []), (5, []), (6, [4]), (7, [])] else []) (by kernel_rfl)
/- laws.markPol -/
def p_laws_markPol (x0 x1 : AV) : Prog := .op (.box x0) fun v1 => .op (.fad 4 v1) fun v2 => .op (.ld1 v2) fun v3 => .op (.call n_laws_markPolS [v3, x1]) fun v4 => .fin [.val v4]
theorem c_laws_markPol (x0 x1 : AV) : CC Tryz.prog n_laws_markPol [x0, x1] (p_laws_markPol x0 x1) := cc Tryz.func159 [] (fun _ => []) (by kernel_rfl)
/- laws.heldPol -/
def p_laws_heldPol (x0 x1 : AV) : Prog := .op (.box x0) fun v1 => .op (.fad 4 v1) fun v2 => .op (.ld1 v2) fun v3 => .op (.call n_laws_heldPolS [v3, x1]) fun v4 => .op (.bin 0 .lss v4 (AV.int .i64 0)) fun v5 => .ite v5 (.fin [.val (AV.int .i64 (-1))]) (.fin [.val v4])
theorem c_laws_heldPol (x0 x1 : AV) : CC Tryz.prog n_laws_heldPol [x0, x1] (p_laws_heldPol x0 x1) := cc Tryz.func162 [] (fun _ => []) (by kernel_rfl)
/- laws.markConf -/
def p_laws_markConf (x0 x1 : AV) : Prog := .op (.box x0) fun v1 => .op (.fad 7 v1) fun v2 => .op (.ldn 5 v2) fun v3 => .op (.call n_laws_markPol [v3, x1]) fun v4 => .fin [.val v4]
theorem c_laws_markConf (x0 x1 : AV) : CC Tryz.prog n_laws_markConf [x0, x1] (p_laws_markConf x0 x1) := cc Tryz.func69 [] (fun _ => []) (by kernel_rfl)
/- laws.heldConf -/
def p_laws_heldConf (x0 x1 : AV) : Prog := .op (.box x0) fun v1 => .op (.fad 7 v1) fun v2 => .op (.ldn 5 v2) fun v3 => .op (.call n_laws_heldPol [v3, x1]) fun v4 => .op (.bin 0 .lss v4 (AV.int .i64 0)) fun v5 => .ite v5 (.fin [.val (AV.int .i64 (-1))]) (.fin [.val v4])
theorem c_laws_heldConf (x0 x1 : AV) : CC Tryz.prog n_laws_heldConf [x0, x1] (p_laws_heldConf x0 x1) := cc Tryz.func77 [] (fun _ => []) (by kernel_rfl)
/- laws.markTimerSS -/
def p_laws_markTimerSS (x0 x1 : AV) : Prog := .loop [x1, AV.int .i64 0] (fun vs1 => .op (.len 0 x0) fun v3 => .op (.bin 0 .lss (g vs1 1) v3) fun v4 => .ite v4 (.op (.idx 1 x0 (g vs1 1)) fun v5 => .op (.ld1 v5) fun v6 => .op (.call n_laws_markTimerS [v6, g vs1 0]) fun v7 => .op (.bin 0 .add (g vs1 1) (AV.int .i64 1)) fun v8 => .leaf 0 [v7, v8]) (.leaf 2 [g vs1 0, g vs1 1])) fun t2 vs1 => tsel t2 1 (.leaf 1 vs1) (tsel t2 2 (.fin [.val (g vs1 0)]) .bad)
theorem c_laws_markTimerSS (x0 x1 : AV) : CC Tryz.prog n_laws_markTimerSS [x0, x1] (p_laws_markTimerSS x0 x1) := cc Tryz.func161 [0, 1, 5] (fun _ => []) (by kernel_rfl)
/- laws.heldTimerSS -/
def p_laws_heldTimerSS (x0 x1 : AV) : Prog := .loop [x1, AV.int .i64 0] (fun vs1 => .op (.len 0 x0) fun v3 => .op (.bin 0 .lss (g vs1 1) v3) fun v4 => .ite v4 (.op (.idx 1 x0 (g vs1 1)) fun v5 => .op (.ld1 v5) fun v6 => .op (.call n_laws_heldTimerS [v6, g vs1 0]) fun v7 => .op (.bin 0 .lss v7 (AV.int .i64 0)) fun v8 => .ite v8 (.fin [.val (AV.int .i64 (-1))]) (.op (.bin 0 .add (g vs1 1) (AV.int .i64 1)) fun v9 => .leaf 0 [v7, v9])) (.leaf 2 [g vs1 0, g vs1 1])) fun t2 vs1 => tsel t2 1 (.leaf 1 vs1) (tsel t2 2 (.fin [.val (g vs1 0)]) .bad)
theorem c_laws_heldTimerSS (x0 x1 : AV) : CC Tryz.prog n_laws_heldTimerSS [x0, x1] (p_laws_heldTimerSS x0 x1) := cc Tryz.func164 [0, 1, 5] (fun _ => []) (by kernel_rfl)
/- laws.markWheel -/
def p_laws_markWheel (x0 x1 : AV) : Prog := .op (.box x0) fun v1 => .op (.fad 1 v1) fun v2 => .op (.ld1 v2) fun v3 => .op (.call n_laws_markTimerSS [v3, x1]) fun v4 => .op (.fad 2 v1) fun v5 => .op (.ld1 v5) fun v6 => .op (.call n_laws_markTimerSS [v6, v4]) fun v7 => .op (.fad 3 v1) fun v8 => .op (.ld1 v8) fun v9 => .op (.call n_laws_markTimerS [v9, v7]) fun v10 => .fin [.val v10]
theorem c_laws_markWheel (x0 x1 : AV) : CC Tryz.prog n_laws_markWheel [x0, x1] (p_laws_markWheel x0 x1) := cc Tryz.func72 [] (fun _ => []) (by kernel_rfl)
/- laws.heldWheel -/
def p_laws_heldWheel (x0 x1 : AV) : Prog := .op (.box x0) fun v1 => .op (.fad 1 v1) fun v2 => .op (.ld1 v2) fun v3 => .op (.call n_laws_heldTimerSS [v3, x1]) fun v4 => .op (.bin 0 .lss v4 (AV.int .i64 0)) fun v5 => .ite v5 (.fin [.val (AV.int .i64 (-1))]) (.op (.fad 2 v1) fun v6 => .op (.ld1 v6) fun v7 => .op (.call n_laws_heldTimerSS [v7, v4]) fun v8 => .op (.bin 0 .lss v8 (AV.int .i64 0)) fun v9 => .ite v9 (.fin [.val (AV.int .i64 (-1))]) (.op (.fad 3 v1) fun v10 => .op (.ld1 v10) fun v11 => .op (.call n_laws_heldTimerS [v11, v8]) fun v12 => .op (.bin 0 .lss v12 (AV.int .i64 0)) fun v13 => .ite v13 (.fin [.val (AV.int .i64 (-1))]) (.fin [.val v12])))
theorem c_laws_heldWheel (x0 x1 : AV) : CC Tryz.prog n_laws_heldWheel [x0, x1] (p_laws_heldWheel x0 x1) := cc Tryz.func80 [] (fun _ => []) (by kernel_rfl)
end
theorem markPols (xs : List Pol) (ih : ∀ x ∈ xs, MarkX Pol Tryz.prog n_laws_markPolS x.l) : MarkX Pol Tryz.prog n_laws_markPolS xs := fun v F n m h r o h0 h1 => c_laws_markPolS _ _ (Prog.awp_mono _ (pMark_spec (w := 5) rfl (ss := [([0], .i), ([1], .i), ([2], .s n_laws_markText), ([3], .s n_laws_markText), ([4], .l n_laws_markPolS)]) (fun x hx => by
  have := ih x hx
  cases x with
  | mk k n s t l => simp only [MOk, Fld.f, s_laws_markText, List.sum_cons, List.sum_nil]; simpa [Pol.l] using this) r o h0 h1) fun _ _ _ x => x)
theorem s_laws_markPolS : MarkS Pol Tryz.prog n_laws_markPolS := fun xs => markPols xs fun x _ => pol_ind (p := fun x => MarkX Pol Tryz.prog n_laws_markPolS x.l) (fun x ih => markPols x.l ih) x
theorem heldPols (xs : List Pol) (ih : ∀ x ∈ xs, HeldX Pol Tryz.prog n_laws_heldPolS x.l) : HeldX Pol Tryz.prog n_laws_heldPolS xs := fun v F m h r h0 h1 => reader (c_laws_heldPolS _ _) (by simp only [old]) (pHeld_spec (w := 5) rfl (ss := [([0], .i), ([1], .i), ([2], .s n_laws_markText), ([3], .s n_laws_markText), ([4], .l n_laws_heldPolS)]) (fun x hx => by
  have := ih x hx
  cases x with
  | mk k n s t l => simp only [HOk, Fld.f, s_laws_markText, List.sum_cons, List.sum_nil]; simpa [Pol.l] using this) r h0 h1)
theorem s_laws_heldPolS : HeldS Pol Tryz.prog n_laws_heldPolS := fun xs => heldPols xs fun x _ => pol_ind (p := fun x => HeldX Pol Tryz.prog n_laws_heldPolS x.l) (fun x ih => heldPols x.l ih) x
theorem s_laws_markPol {x : Pol} {v : AV} {F : List Nat} {n : Nat} {m : Int} {h : AH} (r : SlRep h v x.l F) (o : Own n h F) (h0 : 0 ≤ m) (h1 : (mks m x.l).2 ≤ 1099511627776) : ACalls Tryz.prog n_laws_markPol [.agg (x.cs v), .int .i64 m] h fun r h' => r = .int .i64 (mks m x.l).2 ∧ Kp h h' F ∧ SlRep h' v (mks m x.l).1 F ∧ Own n h' F := by
  refine c_laws_markPol _ _ ?_
  unfold p_laws_markPol
  (repeat' first|refine vs ?_|(refine br ?_ ?_<;>intro _<;>try(exfalso;first|omega|contradiction))|((with_reducible refine g_idx ?_);((first|refine ix ?_|refine ixi ?_|(refine ixg ?_;intro _ _)|(refine ixgi ?_;intro _ _));first|rintro _ _ _ _ _ ⟨rfl,rfl⟩ _|rintro _ _ _ _ _ ⟨_,rfl,_⟩ _|rintro _ _ _ _ _ ⟨_,_,_,_,rfl,rfl,_,_⟩ _|intro _ _ _ _ _ _ _))|(refine sx ?_;intro _ _)|((with_reducible refine g_awp ?_);simp only [g0,g1,g2]))
  refine aw_call (s_laws_markPolS _ _ F n _ _ slr_auto (o.ext ((Ext.refl h).push _) r.lt) h0 h1) ?_
  rintro _ h2 ⟨rfl, k2, q2, o2⟩
  (repeat' first|refine vs ?_|(refine br ?_ ?_<;>intro _<;>try(exfalso;first|omega|contradiction))|((with_reducible refine g_idx ?_);((first|refine ix ?_|refine ixi ?_|(refine ixg ?_;intro _ _)|(refine ixgi ?_;intro _ _));first|rintro _ _ _ _ _ ⟨rfl,rfl⟩ _|rintro _ _ _ _ _ ⟨_,rfl,_⟩ _|rintro _ _ _ _ _ ⟨_,_,_,_,rfl,rfl,_,_⟩ _|intro _ _ _ _ _ _ _))|(refine sx ?_;intro _ _)|((with_reducible refine g_awp ?_);simp only [g0,g1,g2]))
  exact ⟨rfl, _, rfl, rfl, (Kp.of_ext ((Ext.refl h).push _)).trans k2, q2, o2⟩
theorem s_laws_heldPol {x : Pol} {v : AV} {F : List Nat} {m : Int} {h : AH} (r : SlRep h v (mks m x.l).1 F) (h0 : 0 ≤ m) (h1 : (mks m x.l).2 ≤ 1099511627776) : RCalls Tryz.prog n_laws_heldPol [.agg (x.cs v), .int .i64 m] h (.int .i64 (mks m x.l).2) := by
  refine reader (c_laws_heldPol _ _) (by simp only [old]) ?_
  unfold p_laws_heldPol
  have hup := mks_upF x.l m
  (repeat' first|refine vs ?_|(refine br ?_ ?_<;>intro _<;>try(exfalso;first|omega|contradiction))|((with_reducible refine g_callf n_laws_heldPolS ?_);refine aw_rcall (s_laws_heldPolS _ _ _ _ _ slr_auto h0 h1) ?_)|((with_reducible refine g_idx ?_);((first|refine ix ?_|refine ixi ?_|(refine ixg ?_;intro _ _)|(refine ixgi ?_;intro _ _));first|rintro _ _ _ _ _ ⟨rfl,rfl⟩ _|rintro _ _ _ _ _ ⟨_,rfl,_⟩ _|rintro _ _ _ _ _ ⟨_,_,_,_,rfl,rfl,_,_⟩ _|intro _ _ _ _ _ _ _))|(refine sx ?_;intro _ _)|((with_reducible refine g_awp ?_);simp only [g0,g1,g2]))
  all_goals exact pi rfl
theorem s_laws_markConf {x : Conf} {v : AV} {F : List Nat} {n : Nat} {m : Int} {h : AH} (r : SlRep h v x.rule.l F) (o : Own n h F) (h0 : 0 ≤ m) (h1 : (mks m x.rule.l).2 ≤ 1099511627776) : ACalls Tryz.prog n_laws_markConf [.agg (x.cs v), .int .i64 m] h fun r h' => r = .int .i64 (mks m x.rule.l).2 ∧ Kp h h' F ∧ SlRep h' v (mks m x.rule.l).1 F ∧ Own n h' F := by
  refine c_laws_markConf _ _ ?_
  unfold p_laws_markConf
  (repeat' first|refine vs ?_|(refine br ?_ ?_<;>intro _<;>try(exfalso;first|omega|contradiction))|((with_reducible refine g_idx ?_);((first|refine ix ?_|refine ixi ?_|(refine ixg ?_;intro _ _)|(refine ixgi ?_;intro _ _));first|rintro _ _ _ _ _ ⟨rfl,rfl⟩ _|rintro _ _ _ _ _ ⟨_,rfl,_⟩ _|rintro _ _ _ _ _ ⟨_,_,_,_,rfl,rfl,_,_⟩ _|intro _ _ _ _ _ _ _))|(refine sx ?_;intro _ _)|((with_reducible refine g_awp ?_);simp only [g0,g1,g2]))
  refine aw_call (s_laws_markPol (x := x.rule) (F := F) (n := n) slr_auto (o.ext ((Ext.refl h).push _) r.lt) h0 h1) ?_
  rintro _ h2 ⟨rfl, k2, q2, o2⟩
  (repeat' first|refine vs ?_|(refine br ?_ ?_<;>intro _<;>try(exfalso;first|omega|contradiction))|((with_reducible refine g_idx ?_);((first|refine ix ?_|refine ixi ?_|(refine ixg ?_;intro _ _)|(refine ixgi ?_;intro _ _));first|rintro _ _ _ _ _ ⟨rfl,rfl⟩ _|rintro _ _ _ _ _ ⟨_,rfl,_⟩ _|rintro _ _ _ _ _ ⟨_,_,_,_,rfl,rfl,_,_⟩ _|intro _ _ _ _ _ _ _))|(refine sx ?_;intro _ _)|((with_reducible refine g_awp ?_);simp only [g0,g1,g2]))
  exact ⟨rfl, _, rfl, rfl, (Kp.of_ext ((Ext.refl h).push _)).trans k2, q2, o2⟩
theorem s_laws_heldConf {x : Conf} {v : AV} {F : List Nat} {m : Int} {h : AH} (r : SlRep h v (mks m x.rule.l).1 F) (h0 : 0 ≤ m) (h1 : (mks m x.rule.l).2 ≤ 1099511627776) : RCalls Tryz.prog n_laws_heldConf [.agg (x.cs v), .int .i64 m] h (.int .i64 (mks m x.rule.l).2) := by
  refine reader (c_laws_heldConf _ _) (by simp only [old]) ?_
  unfold p_laws_heldConf
  have hup := mks_upF x.rule.l m
  (repeat' first|refine vs ?_|(refine br ?_ ?_<;>intro _<;>try(exfalso;first|omega|contradiction))|((with_reducible refine g_callf n_laws_heldPol ?_);refine aw_rcall (s_laws_heldPol (x := x.rule) slr_auto h0 h1) ?_)|((with_reducible refine g_idx ?_);((first|refine ix ?_|refine ixi ?_|(refine ixg ?_;intro _ _)|(refine ixgi ?_;intro _ _));first|rintro _ _ _ _ _ ⟨rfl,rfl⟩ _|rintro _ _ _ _ _ ⟨_,rfl,_⟩ _|rintro _ _ _ _ _ ⟨_,_,_,_,rfl,rfl,_,_⟩ _|intro _ _ _ _ _ _ _))|(refine sx ?_;intro _ _)|((with_reducible refine g_awp ?_);simp only [g0,g1,g2]))
  all_goals exact pi rfl
theorem s_laws_markTimerSS : MarkS (List Ab.Timer) Tryz.prog n_laws_markTimerSS := fun xs v F n m h r o h0 h1 => c_laws_markTimerSS _ _ (Prog.awp_mono _ (pMark_spec (w := 1) rfl (ss := [([], .l n_laws_markTimerS)]) (fun x _ => by simp [MOk, Fld.f, s_laws_markTimerS.x]) r o h0 h1) fun _ _ _ x => x)
theorem s_laws_heldTimerSS : HeldS (List Ab.Timer) Tryz.prog n_laws_heldTimerSS := fun xs v F m h r h0 h1 => reader (c_laws_heldTimerSS _ _) (by simp only [old]) (pHeld_spec (w := 1) rfl (ss := [([], .l n_laws_heldTimerS)]) (fun x _ => by simp [HOk, Fld.f, s_laws_heldTimerS.x]) r h0 h1)

theorem own_step {n n' : Nat} {h h' : AH} {F G : List Nat} (o : Own n h F) (lt : ∀ b ∈ F, b < h.n) (k : Kp h h' G) (g : Own n' h' G) : Own n h' F := ⟨o.1, fun b hb => ⟨(o.2 b hb).1, by
  by_cases hg : b ∈ G
  · exact (g.2 b hg).2
  · rw [k.2 b (lt b hb) hg]; exact (o.2 b hb).2⟩⟩
def mkWheel (m : Int) (x : Wheel) : Wheel × Int := (⟨x.now, (mks m x.near).1, (mks (mks m x.near).2 x.far).1, (mks (mks (mks m x.near).2 x.far).2 x.rest).1⟩, (mks (mks (mks m x.near).2 x.far).2 x.rest).2)
theorem mkWheel_up (m : Int) (x : Wheel) : m ≤ (mkWheel m x).2 := by
  have := mks_upF x.near m
  have := mks_upF x.far (mks m x.near).2
  have := mks_upF x.rest (mks (mks m x.near).2 x.far).2
  show m ≤ (mks (mks (mks m x.near).2 x.far).2 x.rest).2
  omega
theorem s_laws_markWheel {x : Wheel} {v0 v1 v2 : AV} {F0 F1 F2 : List Nat} {n : Nat} {m : Int} {h : AH} (r0 : SlRep h v0 x.near F0) (r1 : SlRep h v1 x.far F1) (r2 : SlRep h v2 x.rest F2) (o : Own n h (F0 ++ (F1 ++ F2))) (h0 : 0 ≤ m) (h1 : (mkWheel m x).2 ≤ 1099511627776) :
    ACalls Tryz.prog n_laws_markWheel [.agg (x.cs v0 v1 v2), .int .i64 m] h fun r h' => r = .int .i64 (mkWheel m x).2 ∧ Kp h h' (F0 ++ (F1 ++ F2)) ∧ SlRep h' v0 (mkWheel m x).1.near F0 ∧ SlRep h' v1 (mkWheel m x).1.far F1 ∧ SlRep h' v2 (mkWheel m x).1.rest F2 ∧ Own n h' (F0 ++ (F1 ++ F2)) := by
  have o0 := own_l o
  have o1 := own_l (own_r o)
  have o2 := own_r (own_r o)
  have d01 := dis_l (own_d o)
  have d02 := dis_r (own_d o)
  have d12 := own_d (own_r o)
  have d10 : ∀ c ∈ F1, c ∉ F0 := fun c a b => d01 c b a
  have d20 : ∀ c ∈ F2, c ∉ F0 := fun c a b => d02 c b a
  have d21 : ∀ c ∈ F2, c ∉ F1 := fun c a b => d12 c b a
  have u0 := mks_upF x.near m
  have u1 := mks_upF x.far (mks m x.near).2
  have u2 := mks_upF x.rest (mks (mks m x.near).2 x.far).2
  have hm : (mks (mks (mks m x.near).2 x.far).2 x.rest).2 ≤ 1099511627776 := h1
  refine c_laws_markWheel _ _ ?_
  unfold p_laws_markWheel
  refine aw_box rfl ?_
  obtain ⟨H, hH⟩ : ∃ H, H = h.push ⟨x.cs v0 v1 v2, 0, 0⟩ := ⟨_, rfl⟩
  rw [← hH]
  have e : Ext h H := by rw [hH]; exact (Ext.refl h).push _
  have b : Bk H h.n (x.cs v0 v1 v2) 0 := by rw [hH]; exact bk_push
  have K : Kp h H (F0 ++ (F1 ++ F2)) := Kp.of_ext e
  have lt : ∀ c ∈ F0 ++ (F1 ++ F2), c < h.n := fun c hc => by
    simp only [List.mem_append] at hc
    rcases hc with g | g | g
    · exact r0.lt c g
    · exact r1.lt c g
    · exact r2.lt c g
  have nb0 : h.n ∉ F0 := fun g => Nat.lt_irrefl _ (lt _ (by simp [g]))
  have nb1 : h.n ∉ F1 := fun g => Nat.lt_irrefl _ (lt _ (by simp [g]))
  have OO := o.ext e lt
  replace o0 := o0.ext e r0.lt
  replace o1 := o1.ext e r1.lt
  replace o2 := o2.ext e r2.lt
  have LT : ∀ c ∈ F0 ++ (F1 ++ F2), c < H.n := fun c hc => Nat.lt_of_lt_of_le (lt c hc) e.1
  replace r0 := r0.ext e
  replace r1 := r1.ext e
  replace r2 := r2.ext e
  clear e hH
  (repeat' first|refine vs ?_|(refine br ?_ ?_<;>intro _<;>try(exfalso;first|omega|contradiction))|((with_reducible refine g_idx ?_);((first|refine ix ?_|refine ixi ?_|(refine ixg ?_;intro _ _)|(refine ixgi ?_;intro _ _));first|rintro _ _ _ _ _ ⟨rfl,rfl⟩ _|rintro _ _ _ _ _ ⟨_,rfl,_⟩ _|rintro _ _ _ _ _ ⟨_,_,_,_,rfl,rfl,_,_⟩ _|intro _ _ _ _ _ _ _))|(refine sx ?_;intro _ _)|((with_reducible refine g_awp ?_);simp only [g0,g1,g2]))
  refine aw_call (s_laws_markTimerSS _ _ F0 n _ _ r0 o0 h0 (by omega)) ?_
  rintro _ h2 ⟨rfl, k1, q0, p0⟩
  replace OO := own_step OO LT k1 p0
  replace LT : ∀ c ∈ F0 ++ (F1 ++ F2), c < h2.n := fun c hc => Nat.lt_of_lt_of_le (LT c hc) k1.1
  replace o1 := (ol_kp1 k1 ⟨o1, r1.lt⟩ d10).1
  replace o2 := (ol_kp1 k1 ⟨o2, r2.lt⟩ d20).1
  replace r1 := slr_kp1 k1 r1 d10
  replace r2 := slr_kp1 k1 r2 d20
  replace b := bk_kp1 k1 b nb0
  replace K := K.trans (k1.mono fun c hc => by simp [hc])
  clear k1
  (repeat' first|refine vs ?_|(refine br ?_ ?_<;>intro _<;>try(exfalso;first|omega|contradiction))|((with_reducible refine g_idx ?_);((first|refine ix ?_|refine ixi ?_|(refine ixg ?_;intro _ _)|(refine ixgi ?_;intro _ _));first|rintro _ _ _ _ _ ⟨rfl,rfl⟩ _|rintro _ _ _ _ _ ⟨_,rfl,_⟩ _|rintro _ _ _ _ _ ⟨_,_,_,_,rfl,rfl,_,_⟩ _|intro _ _ _ _ _ _ _))|(refine sx ?_;intro _ _)|((with_reducible refine g_awp ?_);simp only [g0,g1,g2]))
  refine aw_call (s_laws_markTimerSS _ _ F1 n _ _ r1 o1 (by omega) (by omega)) ?_
  rintro _ h3 ⟨rfl, k1, q1, p1⟩
  replace OO := own_step OO LT k1 p1
  replace LT : ∀ c ∈ F0 ++ (F1 ++ F2), c < h3.n := fun c hc => Nat.lt_of_lt_of_le (LT c hc) k1.1
  replace o2 := (ol_kp1 k1 ⟨o2, r2.lt⟩ d21).1
  replace q0 := slr_kp1 k1 q0 d01
  replace r2 := slr_kp1 k1 r2 d21
  replace b := bk_kp1 k1 b nb1
  replace K := K.trans (k1.mono fun c hc => by simp [hc])
  clear k1
  (repeat' first|refine vs ?_|(refine br ?_ ?_<;>intro _<;>try(exfalso;first|omega|contradiction))|((with_reducible refine g_idx ?_);((first|refine ix ?_|refine ixi ?_|(refine ixg ?_;intro _ _)|(refine ixgi ?_;intro _ _));first|rintro _ _ _ _ _ ⟨rfl,rfl⟩ _|rintro _ _ _ _ _ ⟨_,rfl,_⟩ _|rintro _ _ _ _ _ ⟨_,_,_,_,rfl,rfl,_,_⟩ _|intro _ _ _ _ _ _ _))|(refine sx ?_;intro _ _)|((with_reducible refine g_awp ?_);simp only [g0,g1,g2]))
  refine aw_call (s_laws_markTimerS _ _ F2 n _ _ r2 o2 (by omega) (by omega)) ?_
  rintro _ h4 ⟨rfl, k1, q2, p2⟩
  replace OO := own_step OO LT k1 p2
  replace q0 := slr_kp1 k1 q0 d02
  replace q1 := slr_kp1 k1 q1 d12
  replace K := K.trans (k1.mono fun c hc => by simp [hc])
  clear k1
  (repeat' first|refine vs ?_|(refine br ?_ ?_<;>intro _<;>try(exfalso;first|omega|contradiction))|((with_reducible refine g_idx ?_);((first|refine ix ?_|refine ixi ?_|(refine ixg ?_;intro _ _)|(refine ixgi ?_;intro _ _));first|rintro _ _ _ _ _ ⟨rfl,rfl⟩ _|rintro _ _ _ _ _ ⟨_,rfl,_⟩ _|rintro _ _ _ _ _ ⟨_,_,_,_,rfl,rfl,_,_⟩ _|intro _ _ _ _ _ _ _))|(refine sx ?_;intro _ _)|((with_reducible refine g_awp ?_);simp only [g0,g1,g2]))
  exact ⟨rfl, _, rfl, rfl, K, q0, q1, q2, OO⟩
theorem s_laws_heldWheel {x : Wheel} {v0 v1 v2 : AV} {F0 F1 F2 : List Nat} {m : Int} {h : AH} (r0 : SlRep h v0 (mkWheel m x).1.near F0) (r1 : SlRep h v1 (mkWheel m x).1.far F1) (r2 : SlRep h v2 (mkWheel m x).1.rest F2) (h0 : 0 ≤ m) (h1 : (mkWheel m x).2 ≤ 1099511627776) :
    RCalls Tryz.prog n_laws_heldWheel [.agg (x.cs v0 v1 v2), .int .i64 m] h (.int .i64 (mkWheel m x).2) := by
  have u0 := mks_upF x.near m
  have u1 := mks_upF x.far (mks m x.near).2
  have u2 := mks_upF x.rest (mks (mks m x.near).2 x.far).2
  have hm : (mks (mks (mks m x.near).2 x.far).2 x.rest).2 ≤ 1099511627776 := h1
  refine reader (c_laws_heldWheel _ _) (by simp only [old]) ?_
  unfold p_laws_heldWheel
  (repeat' first|refine vs ?_|(refine br ?_ ?_<;>intro _<;>try(exfalso;first|omega|contradiction))|((with_reducible refine g_idx ?_);((first|refine ix ?_|refine ixi ?_|(refine ixg ?_;intro _ _)|(refine ixgi ?_;intro _ _));first|rintro _ _ _ _ _ ⟨rfl,rfl⟩ _|rintro _ _ _ _ _ ⟨_,rfl,_⟩ _|rintro _ _ _ _ _ ⟨_,_,_,_,rfl,rfl,_,_⟩ _|intro _ _ _ _ _ _ _))|(refine sx ?_;intro _ _)|((with_reducible refine g_awp ?_);simp only [g0,g1,g2]))
  refine aw_rcall (s_laws_heldTimerSS x.near v0 F0 m _ (r0.ext ((Ext.refl h).push _)) h0 (by omega)) ?_
  (repeat' first|refine vs ?_|(refine br ?_ ?_<;>intro _<;>try(exfalso;first|omega|contradiction))|((with_reducible refine g_idx ?_);((first|refine ix ?_|refine ixi ?_|(refine ixg ?_;intro _ _)|(refine ixgi ?_;intro _ _));first|rintro _ _ _ _ _ ⟨rfl,rfl⟩ _|rintro _ _ _ _ _ ⟨_,rfl,_⟩ _|rintro _ _ _ _ _ ⟨_,_,_,_,rfl,rfl,_,_⟩ _|intro _ _ _ _ _ _ _))|(refine sx ?_;intro _ _)|((with_reducible refine g_awp ?_);simp only [g0,g1,g2]))
  refine aw_rcall (s_laws_heldTimerSS x.far v1 F1 _ _ (r1.ext ((Ext.refl h).push _)) (by omega) (by omega)) ?_
  (repeat' first|refine vs ?_|(refine br ?_ ?_<;>intro _<;>try(exfalso;first|omega|contradiction))|((with_reducible refine g_idx ?_);((first|refine ix ?_|refine ixi ?_|(refine ixg ?_;intro _ _)|(refine ixgi ?_;intro _ _));first|rintro _ _ _ _ _ ⟨rfl,rfl⟩ _|rintro _ _ _ _ _ ⟨_,rfl,_⟩ _|rintro _ _ _ _ _ ⟨_,_,_,_,rfl,rfl,_,_⟩ _|intro _ _ _ _ _ _ _))|(refine sx ?_;intro _ _)|((with_reducible refine g_awp ?_);simp only [g0,g1,g2]))
  refine aw_rcall (s_laws_heldTimerS x.rest v2 F2 _ _ (r2.ext ((Ext.refl h).push _)) (by omega) (by omega)) ?_
  (repeat' first|refine vs ?_|(refine br ?_ ?_<;>intro _<;>try(exfalso;first|omega|contradiction))|((with_reducible refine g_idx ?_);((first|refine ix ?_|refine ixi ?_|(refine ixg ?_;intro _ _)|(refine ixgi ?_;intro _ _));first|rintro _ _ _ _ _ ⟨rfl,rfl⟩ _|rintro _ _ _ _ _ ⟨_,rfl,_⟩ _|rintro _ _ _ _ _ ⟨_,_,_,_,rfl,rfl,_,_⟩ _|intro _ _ _ _ _ _ _))|(refine sx ?_;intro _ _)|((with_reducible refine g_awp ?_);simp only [g0,g1,g2]))
  exact pi rfl
end Go.Proofs.YtjnekdbdmoibgaaGreat
end
