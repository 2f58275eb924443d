/- The text of a mark. -/
import Derived.Test.YtpcgbddmdipfbaaNm
import Derived.Test.YtpcgbddmdipfbaaK4
set_option linter.unusedSimpArgs false
set_option linter.unusedVariables false
namespace Go.Proofs.Ytpcgbddmdipfbaa
open Go Go.Ab
section
/- laws.markText -/
def p_laws_markText (x0 : AV) : Prog := .op (.bin 0 .leq x0 (AV.int .i64 0)) fun v1 => .ite v1 (.fin [.val (AV.str ⟨#[109, 48]⟩)]) (.loop [x0, AV.str ⟨#[]⟩] (fun vs2 => .op (.bin 0 .gtr (g vs2 0) (AV.int .i64 0)) fun v4 => .ite v4 (.op (.bin 0 .rem (g vs2 0) (AV.int .i64 10)) fun v5 => .op (.bin 0 .add (AV.int .i64 48) v5) fun v6 => .op (.conv .u8 v6) fun v7 => .op (.bslice 1 1 [AV.int .u8 0] [(0, 1, v7)]) fun v8 => .op (.bstr v8) fun v9 => .op (.bin 1 .add v9 (g vs2 1)) fun v10 => .op (.bin 0 .quo (g vs2 0) (AV.int .i64 10)) fun v11 => .leaf 0 [v11, v10]) (.leaf 2 [g vs2 0, g vs2 1])) fun t3 vs2 => tsel t3 1 (.leaf 1 vs2) (tsel t3 2 (.op (.bin 1 .add (AV.str ⟨#[109]⟩) (g vs2 1)) fun v12 => .fin [.val v12]) .bad))
theorem c_laws_markText (x0 : AV) : CC Try.prog n_laws_markText [x0] (p_laws_markText x0) := cc Try.func185 [0, 3] (fun _ => []) (by kernel_rfl)
end
theorem mdig_fuel : ∀ (f f' k : Nat), k ≤ f → k ≤ f' → mdig f k = mdig f' k := by
  intro f
  induction f with
  | zero =>
    intro f' k h h'
    have : k = 0 := by omega
    subst this
    cases f' <;> simp [mdig]
  | succ f ih =>
    intro f' k h h'
    cases f' with
    | zero =>
      have : k = 0 := by omega
      subst this; simp [mdig]
    | succ f' =>
      simp only [mdig]
      split
      · rfl
      · rw [ih f' (k / 10) (by omega) (by omega)]
def digs (n : Nat) : List UInt8 := mdig n n
theorem digs_0 : digs 0 = [] := rfl
theorem digs_s {n : Nat} (h : 0 < n) : digs n = digs (n / 10) ++ [UInt8.ofNat (48 + n % 10)] := by
  cases n with
  | zero => omega
  | succ n =>
    unfold digs
    rw [mdig, if_neg (by omega), mdig_fuel n ((n + 1) / 10) ((n + 1) / 10) (by omega) (Nat.le_refl _)]
theorem digs_len (n : Nat) : (digs n).length ≤ n := by
  induction n using Nat.strongRecOn with
  | _ n ih =>
    by_cases h : 0 < n
    · rw [digs_s h, List.length_append]
      have := ih (n / 10) (by omega)
      simp only [List.length_cons, List.length_nil]; omega
    · have : n = 0 := by omega
      subst this; simp [digs_0]
theorem bys_app (a b : ByteArray) : bys (a ++ b) = bys a ++ bys b := by
  unfold bys
  simp [ByteArray.data_append]
theorem bys_inj {a b : ByteArray} (h : bys a = bys b) : a = b := by
  unfold bys at h
  exact ByteArray.ext (Array.toList_inj.1 h)
section
variable {P : Program} {h : AH} {Q : Nat → List AV → AH → Prop} {k : AV → Prog}
theorem aw_sadd {a b : ByteArray} (hl : a.size + b.size ≤ 9223372036854775807) (hk : (k (.str (a ++ b))).awp P h Q) : (Prog.op (.bin 1 .add (.str a) (.str b)) k).awp P h Q := by
  simp only [Prog.awp, AOp.go, binOk, abin]
  rw [if_pos (by omega)]; exact hk
theorem aw_qn {n : Nat} (hn : n < 4611686018427387904) (hk : (k (.int .i64 ((n / 10 : Nat) : Int))).awp P h Q) : (Prog.op (.bin 0 .quo (.int .i64 (n : Int)) (.int .i64 10)) k).awp P h Q := by
  refine aw_quow (by decide) ?_
  have : (n : Int).tdiv 10 = ((n / 10 : Nat) : Int) := by rw [Int.tdiv_eq_ediv_of_nonneg (by omega)]; omega
  rw [this, wrap_id (by omega) (by omega)]; exact hk
theorem aw_rn {n : Nat} (hk : (k (.int .i64 ((n % 10 : Nat) : Int))).awp P h Q) : (Prog.op (.bin 0 .rem (.int .i64 (n : Int)) (.int .i64 10)) k).awp P h Q := by
  refine aw_rem (by decide) ?_
  have : (n : Int).tmod 10 = ((n % 10 : Nat) : Int) := by rw [Int.tmod_eq_emod_of_nonneg (by omega)]; omega
  rw [this]; exact hk
theorem aw_cv8 {n : Int} (h0 : 0 ≤ n) (h1 : n < 256) (hk : (k (.int .u8 n)).awp P h Q) : (Prog.op (.conv .u8 (.int .i64 n)) k).awp P h Q := by
  refine aw_conv ?_
  have : IntKind.u8.wrap n = n := by
    rw [IntKind.wrap_u8]; omega
  rw [this]; exact hk
end
theorem s_laws_markText : MText Try.prog n_laws_markText := by
  intro k h h0 h1
  refine reader (c_laws_markText _) (by simp only [old]) ?_
  unfold p_laws_markText
  obtain ⟨n, rfl⟩ : ∃ n : Nat, k = n := ⟨k.toNat, by omega⟩
  refine br (fun hle => ?_) (fun hgt => ?_)
  · refine aw_ite_t (aw_fin1 (pv ?_))
    unfold mtext; rw [if_pos hle]
  refine aw_ite_f ?_
  refine aw_loop (fun m vs h1 => ∃ s, vs = [.int .i64 (m : Int), .str s] ∧ Ext h h1 ∧ digs m ++ bys s = digs n ∧ m ≤ n) n ⟨_, rfl, Ext.refl _, by rw [show bys ⟨#[]⟩ = [] from rfl, List.append_nil], Nat.le_refl _⟩ ?_
  rintro m vs h2 ⟨s, rfl, e2, hd, hm⟩
  simp only [g0, g1]
  have hl := digs_len n
  rw [← hd, List.length_append, bys_len] at hl
  refine br (fun hlt => ?_) (fun hge => ?_)
  · refine aw_ite_t (aw_rn (aw_addn (by omega) (by omega) (aw_cv8 (by omega) (by omega) ?_)))
    refine w_bs (by rfl) (by decide) (by rfl) ?_
    refine aw_bstr1 (n := 48 + ((m % 10 : Nat) : Int)) (by simp [splice]) (by simp [live]) ?_
    refine aw_sadd (by have : (⟨#[UInt8.ofNat (48 + ((m % 10 : Nat) : Int)).toNat]⟩ : ByteArray).size = 1 := rfl
                       omega) ?_
    refine aw_qn (by omega) (aw_leaf (aw_nexts ⟨m / 10, by omega, _, rfl, e2.push _, ?_, by omega⟩))
    rw [bys_app, ← hd, digs_s (show 0 < m by omega), List.append_assoc]
    congr 1
  · have : m = 0 := by omega
    subst this
    rw [digs_0, List.nil_append] at hd
    refine aw_ite_f (aw_leaf (aw_ends (by decide) (aw_tsel_ne (by decide) (aw_tsel_eq ?_))))
    simp only [g1]
    refine aw_sadd (by have : (⟨#[109]⟩ : ByteArray).size = 1 := rfl
                       omega) (aw_fin1 (pv ?_ e2))
    unfold mtext
    rw [if_neg hgt]
    congr 1
    refine bys_inj ?_
    rw [bys_app, hd]
    rfl
end Go.Proofs.Ytpcgbddmdipfbaa
