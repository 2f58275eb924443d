import Derived.Test.YtekfdoknfcedpaaGreatCNm
import Derived.Test.YtekfdoknfcedpaaGreatCK4
import Derived.Test.YtekfdoknfcedpaaGreatCKW1
import Derived.Test.YtekfdoknfcedpaaGreatCK5
section
/- The text of a mark. -/
set_option linter.unusedSimpArgs false
set_option linter.unusedVariables false
namespace Go.Proofs.YtekfdoknfcedpaaGreat
open Go Go.Ab
section
/- laws.markText -/
def p_laws_markText (x0 : AV) : Prog := Bn .leq x0 (.int .i64 0) fun a=>.ite a (.fin [.val (.str ⟨#[109, 48]⟩)]) (.loop [x0, .str ⟨#[]⟩] (fun a=>Bn .gtr (g a 0) (.int .i64 0) fun b=>.ite b (Bn .rem (g a 0) (.int .i64 10) fun b=>Bn .add (.int .i64 48) b fun b=>.op (.conv .u8 b) fun b=>.op (.bslice 1 1 [.int .u8 0] [(0, 1, b)]) fun b=>.op (.bstr b) fun b=>.op (.bin 1 .add b (g a 1)) fun b=>Bn .quo (g a 0) (.int .i64 10) fun a=>.leaf 0 [a, b]) (.leaf 2 [g a 0, g a 1])) fun a b=>tsel a 1 (.leaf 1 b) (tsel a 2 (.op (.bin 1 .add (.str ⟨#[109]⟩) (g b 1)) fun a=>.fin [.val a]) .bad))
theorem c_laws_markText (x0 : AV) : CC Tryz.prog n_laws_markText [x0] (p_laws_markText x0) := cc Tryz.func166 [0, 3] (fun _ => [])
end
theorem mdig_fuel : ∀ (f f' k : Nat), k ≤ f → k ≤ f' → mdig f k = mdig f' k := by
  intro f
  induction f with
  | zero =>
    intro f' k h h'
    have : k = 0 := by omega
    subst this
    cases f' <;> simp [mdig]
  | succ f ih =>
    intro f' k h h'
    cases f' with
    | zero =>
      have : k = 0 := by omega
      subst this; simp [mdig]
    | succ f' =>
      simp only [mdig]
      split
      · rfl
      · rw [ih f' (k / 10) (by omega) (by omega)]
def digs (n : Nat) : List UInt8 := mdig n n
theorem digs_0 : digs 0 = [] := rfl
theorem digs_s {n : Nat} (h : 0 < n) : digs n = digs (n / 10) ++ [UInt8.ofNat (48 + n % 10)] := by
  cases n with
  | zero => omega
  | succ n =>
    unfold digs
    rw [mdig, if_neg (by omega), mdig_fuel n ((n + 1) / 10) ((n + 1) / 10) (by omega) (Nat.le_refl _)]
theorem digs_len (n : Nat) : (digs n).length ≤ n := by
  induction n using Nat.strongRecOn with
  | _ n ih =>
    by_cases h : 0 < n
    · rw [digs_s h, List.length_append]
      have := ih (n / 10) (by omega)
      simp only [List.length_cons, List.length_nil]; omega
    · have : n = 0 := by omega
      subst this; simp [digs_0]
theorem bys_app (a b : ByteArray) : bys (a ++ b) = bys a ++ bys b := by
  unfold bys
  simp [ByteArray.data_append]
theorem bys_inj {a b : ByteArray} (h : bys a = bys b) : a = b := by
  unfold bys at h
  exact ByteArray.ext (Array.toList_inj.1 h)
section
variable {P : Program} {h : AH} {Q : Nat → List AV → AH → Prop} {k : AV → Prog}
theorem aw_sadd {a b : ByteArray} (hl : a.size + b.size ≤ 9223372036854775807) (hk : (k (.str (a ++ b))).awp P h Q) : (Prog.op (.bin 1 .add (.str a) (.str b)) k).awp P h Q := by
  simp only [Prog.awp, AOp.go, binOk, abin]
  rw [if_pos (by omega)]; exact hk
theorem aw_qn {n : Nat} (hn : n < 4611686018427387904) (hk : (k (.int .i64 ((n / 10 : Nat) : Int))).awp P h Q) : (Prog.op (.bin 0 .quo (.int .i64 (n : Int)) (.int .i64 10)) k).awp P h Q := by
  refine aw_quow (by decide) ?_
  have : (n : Int).tdiv 10 = ((n / 10 : Nat) : Int) := by rw [Int.tdiv_eq_ediv_of_nonneg (by omega)]; omega
  rw [this, wrap_id (by omega) (by omega)]; exact hk
theorem aw_rn {n : Nat} (hk : (k (.int .i64 ((n % 10 : Nat) : Int))).awp P h Q) : (Prog.op (.bin 0 .rem (.int .i64 (n : Int)) (.int .i64 10)) k).awp P h Q := by
  refine aw_rem (by decide) ?_
  have : (n : Int).tmod 10 = ((n % 10 : Nat) : Int) := by rw [Int.tmod_eq_emod_of_nonneg (by omega)]; omega
  rw [this]; exact hk
theorem aw_cv8 {n : Int} (h0 : 0 ≤ n) (h1 : n < 256) (hk : (k (.int .u8 n)).awp P h Q) : (Prog.op (.conv .u8 (.int .i64 n)) k).awp P h Q := by
  refine aw_conv ?_
  have : IntKind.u8.wrap n = n := by
    rw [IntKind.wrap_u8]; omega
  rw [this]; exact hk
end
theorem s_laws_markText : MText Tryz.prog n_laws_markText := by
  intro k h h0 h1
  refine reader (c_laws_markText _) (by simp only [old]) ?_
  unfold p_laws_markText
  obtain ⟨n, rfl⟩ : ∃ n : Nat, k = n := ⟨k.toNat, by omega⟩
  refine br (fun hle => ?_) (fun hgt => ?_)
  · refine aw_ite_t (aw_fin1 (pv ?_))
    unfold mtext; rw [if_pos hle]
  refine aw_ite_f ?_
  refine aw_loop (fun m vs h1 => ∃ s, vs = [.int .i64 (m : Int), .str s] ∧ Ext h h1 ∧ digs m ++ bys s = digs n ∧ m ≤ n) n ⟨_, rfl, Ext.refl _, by rw [show bys ⟨#[]⟩ = [] from rfl, List.append_nil], Nat.le_refl _⟩ ?_
  rintro m vs h2 ⟨s, rfl, e2, hd, hm⟩
  simp only [g0, g1]
  have hl := digs_len n
  rw [← hd, List.length_append, bys_len] at hl
  refine br (fun hlt => ?_) (fun hge => ?_)
  · refine aw_ite_t (aw_rn (aw_addn (by omega) (by omega) (aw_cv8 (by omega) (by omega) ?_)))
    refine w_bs (by rfl) (by decide) (by rfl) ?_
    refine aw_bstr1 (n := 48 + ((m % 10 : Nat) : Int)) (by simp [splice]) (by simp [live]) ?_
    refine aw_sadd (by have : (⟨#[UInt8.ofNat (48 + ((m % 10 : Nat) : Int)).toNat]⟩ : ByteArray).size = 1 := rfl
                       omega) ?_
    refine aw_qn (by omega) (aw_leaf (aw_nexts ⟨m / 10, by omega, _, rfl, e2.push _, ?_, by omega⟩))
    rw [bys_app, ← hd, digs_s (show 0 < m by omega), List.append_assoc]
    congr 1
  · have : m = 0 := by omega
    subst this
    rw [digs_0, List.nil_append] at hd
    refine aw_ite_f (aw_leaf (aw_ends (by decide) (aw_tsel_ne (by decide) (aw_tsel_eq ?_))))
    simp only [g1]
    refine aw_sadd (by have : (⟨#[109]⟩ : ByteArray).size = 1 := rfl
                       omega) (aw_fin1 (pv ?_ e2))
    unfold mtext
    rw [if_neg hgt]
    congr 1
    refine bys_inj ?_
    rw [bys_app, hd]
    rfl
end Go.Proofs.YtekfdoknfcedpaaGreat
end
section
/- Attr: marks. Written by mkm.py. -/
set_option linter.unusedSimpArgs false
set_option linter.unusedVariables false
set_option maxHeartbeats 1000000
namespace Go.Proofs.YtekfdoknfcedpaaGreat
open Go Go.Ab
section
/- laws.markAttrS -/
def p_laws_markAttrS (x0 x1 : AV) : Prog := .loop [x1, .int .i64 0] (fun a=>Ln 0 x0 fun b=>Bn .lss (g a 1) b fun b=>.ite b (Cl n_laws_markText [g a 0] fun b=>Ix 4 x0 (g a 1) fun c=>Sg 0 c b fun _=>Bn .add (g a 0) (.int .i64 1) fun b=>Bn .rem b (.int .i64 3) fun c=>Bn .eql c (.int .i64 0) fun c=>Ix 4 x0 (g a 1) fun d=>Sg 1 d c fun _=>Bn .add b (.int .i64 1) fun b=>Ix 4 x0 (g a 1) fun c=>Sg 2 c b fun _=>Bn .add b (.int .i64 1) fun b=>Cl n_laws_markText [b] fun c=>Ix 4 x0 (g a 1) fun d=>Sg 3 d c fun _=>Bn .add b (.int .i64 1) fun b=>Bn .add (g a 1) (.int .i64 1) fun a=>.leaf 0 [b, a]) (.leaf 2 [g a 0, g a 1])) fun a b=>tsel a 1 (.leaf 1 b) (tsel a 2 (.fin [.val (g b 0)]) .bad)
theorem c_laws_markAttrS (x0 x1 : AV) : CC Tryz.prog n_laws_markAttrS [x0, x1] (p_laws_markAttrS x0 x1) := cc Tryz.func84 [0, 1, 5] (fun _ => [])
/- laws.heldAttrS -/
def p_laws_heldAttrS (x0 x1 : AV) : Prog := .loop [x1, .int .i64 0] (fun a=>Ln 0 x0 fun b=>Bn .lss (g a 1) b fun b=>.ite b (Ix 4 x0 (g a 1) fun b=>.op (.fad 0 b) fun b=>.op (.ld1 b) fun c=>Cl n_laws_markText [g a 0] fun d=>.chk (.ld1 b) c (.op (.bin 1 .neq c d) fun b=>.ite b (.fin [.val (.int .i64 (-1))]) (Bn .add (g a 0) (.int .i64 1) fun b=>Ix 4 x0 (g a 1) fun c=>Lg 1 c fun c=>Bn .rem b (.int .i64 3) fun d=>Bn .eql d (.int .i64 0) fun d=>.op (.bin 2 .neq c d) fun c=>.ite c (.fin [.val (.int .i64 (-1))]) (Bn .add b (.int .i64 1) fun b=>Ix 4 x0 (g a 1) fun c=>Lg 2 c fun c=>Bn .neq c b fun c=>.ite c (.fin [.val (.int .i64 (-1))]) (Bn .add b (.int .i64 1) fun b=>Ix 4 x0 (g a 1) fun c=>.op (.fad 3 c) fun c=>.op (.ld1 c) fun d=>Cl n_laws_markText [b] fun e=>.chk (.ld1 c) d (.op (.bin 1 .neq d e) fun c=>.ite c (.fin [.val (.int .i64 (-1))]) (Bn .add b (.int .i64 1) fun b=>Bn .add (g a 1) (.int .i64 1) fun a=>.leaf 0 [b, a]))))))) (.leaf 2 [g a 0, g a 1])) fun a b=>tsel a 1 (.leaf 1 b) (tsel a 2 (.fin [.val (g b 0)]) .bad)
theorem c_laws_heldAttrS (x0 x1 : AV) : CC Tryz.prog n_laws_heldAttrS [x0, x1] (p_laws_heldAttrS x0 x1) := cc Tryz.func149 [0, 1, 5] (fun r => if r = 4 then [(0, []), (1, []), (2, []), (3, []), (4, []), (5, []), (6, [4]), (7, [])] else if r = 13 then [(0, []), (1, []), (2, []), (3, []), (4, []), (5, []), (6, [4]), (7, [])] else [])
end
theorem s_laws_markAttrS : MarkS Attr Tryz.prog n_laws_markAttrS := fun xs v F n m h r o h0 h1 => c_laws_markAttrS _ _ (Prog.awp_mono _ (pMark_spec (w := 4) rfl (ss := [([0], .s n_laws_markText), ([1], .b), ([2], .i), ([3], .s n_laws_markText)]) (fun x _ => by simp [MOk, Fld.f, s_laws_markText]) r o h0 h1) fun _ _ _ x => x)
theorem s_laws_heldAttrS : HeldS Attr Tryz.prog n_laws_heldAttrS := fun xs v F m h r h0 h1 => reader (c_laws_heldAttrS _ _) (by simp only [old]) (pHeld_spec (w := 4) rfl (ss := [([0], .s n_laws_markText), ([1], .b), ([2], .i), ([3], .s n_laws_markText)]) (fun x _ => by simp [HOk, Fld.f, s_laws_markText]) r h0 h1)
end Go.Proofs.YtekfdoknfcedpaaGreat
end
section
/- Span: marks. Written by mkm.py. -/
set_option linter.unusedSimpArgs false
set_option linter.unusedVariables false
set_option maxHeartbeats 1000000
namespace Go.Proofs.YtekfdoknfcedpaaGreat
open Go Go.Ab
section
/- laws.markSpanS -/
def p_laws_markSpanS (x0 x1 : AV) : Prog := .loop [x1, .int .i64 0] (fun a=>Ln 0 x0 fun b=>Bn .lss (g a 1) b fun b=>.ite b (Ix 6 x0 (g a 1) fun b=>Sg 0 b (g a 0) fun _=>Bn .add (g a 0) (.int .i64 1) fun b=>Ix 6 x0 (g a 1) fun c=>Sg 1 c b fun _=>Bn .add b (.int .i64 1) fun b=>Ix 6 x0 (g a 1) fun c=>Sg 2 c b fun _=>Bn .add b (.int .i64 1) fun b=>Ix 6 x0 (g a 1) fun c=>Sg 3 c b fun _=>Bn .add b (.int .i64 1) fun b=>Bn .rem b (.int .i64 3) fun c=>Bn .eql c (.int .i64 0) fun c=>Ix 6 x0 (g a 1) fun d=>Sg 4 d c fun _=>Bn .add b (.int .i64 1) fun b=>Ix 6 x0 (g a 1) fun c=>Lg 5 c fun c=>Cl n_laws_markAttrS [c, b] fun b=>Bn .add (g a 1) (.int .i64 1) fun a=>.leaf 0 [b, a]) (.leaf 2 [g a 0, g a 1])) fun a b=>tsel a 1 (.leaf 1 b) (tsel a 2 (.fin [.val (g b 0)]) .bad)
theorem c_laws_markSpanS (x0 x1 : AV) : CC Tryz.prog n_laws_markSpanS [x0, x1] (p_laws_markSpanS x0 x1) := cc Tryz.func227 [0, 1, 5] (fun _ => [])
/- laws.heldSpanS -/
def p_laws_heldSpanS (x0 x1 : AV) : Prog := .loop [x1, .int .i64 0] (fun a=>Ln 0 x0 fun b=>Bn .lss (g a 1) b fun b=>.ite b (Ix 6 x0 (g a 1) fun b=>Lg 0 b fun b=>Bn .neq b (g a 0) fun b=>.ite b (.fin [.val (.int .i64 (-1))]) (Bn .add (g a 0) (.int .i64 1) fun b=>Ix 6 x0 (g a 1) fun c=>Lg 1 c fun c=>Bn .neq c b fun c=>.ite c (.fin [.val (.int .i64 (-1))]) (Bn .add b (.int .i64 1) fun b=>Ix 6 x0 (g a 1) fun c=>Lg 2 c fun c=>Bn .neq c b fun c=>.ite c (.fin [.val (.int .i64 (-1))]) (Bn .add b (.int .i64 1) fun b=>Ix 6 x0 (g a 1) fun c=>Lg 3 c fun c=>Bn .neq c b fun c=>.ite c (.fin [.val (.int .i64 (-1))]) (Bn .add b (.int .i64 1) fun b=>Ix 6 x0 (g a 1) fun c=>Lg 4 c fun c=>Bn .rem b (.int .i64 3) fun d=>Bn .eql d (.int .i64 0) fun d=>.op (.bin 2 .neq c d) fun c=>.ite c (.fin [.val (.int .i64 (-1))]) (Bn .add b (.int .i64 1) fun b=>Ix 6 x0 (g a 1) fun c=>Lg 5 c fun c=>Cl n_laws_heldAttrS [c, b] fun b=>Bn .lss b (.int .i64 0) fun c=>.ite c (.fin [.val (.int .i64 (-1))]) (Bn .add (g a 1) (.int .i64 1) fun a=>.leaf 0 [b, a]))))))) (.leaf 2 [g a 0, g a 1])) fun a b=>tsel a 1 (.leaf 1 b) (tsel a 2 (.fin [.val (g b 0)]) .bad)
theorem c_laws_heldSpanS (x0 x1 : AV) : CC Tryz.prog n_laws_heldSpanS [x0, x1] (p_laws_heldSpanS x0 x1) := cc Tryz.func229 [0, 1, 5] (fun _ => [])
/- laws.markSpan -/
def p_laws_markSpan (x0 x1 : AV) : Prog := .op (.box x0) fun a=>Lg 5 a fun a=>Cl n_laws_markAttrS [a, x1] fun a=>.fin [.val a]
theorem c_laws_markSpan (x0 x1 : AV) : CC Tryz.prog n_laws_markSpan [x0, x1] (p_laws_markSpan x0 x1) := cc Tryz.func20
end
theorem s_laws_markSpanS : MarkS Span Tryz.prog n_laws_markSpanS := fun xs v F n m h r o h0 h1 => c_laws_markSpanS _ _ (Prog.awp_mono _ (pMark_spec (w := 6) rfl (ss := [([0], .i), ([1], .i), ([2], .i), ([3], .i), ([4], .b), ([5], .l n_laws_markAttrS)]) (fun x _ => by simp [MOk, Fld.f, s_laws_markAttrS.x]) r o h0 h1) fun _ _ _ x => x)
theorem s_laws_heldSpanS : HeldS Span Tryz.prog n_laws_heldSpanS := fun xs v F m h r h0 h1 => reader (c_laws_heldSpanS _ _) (by simp only [old]) (pHeld_spec (w := 6) rfl (ss := [([0], .i), ([1], .i), ([2], .i), ([3], .i), ([4], .b), ([5], .l n_laws_heldAttrS)]) (fun x _ => by simp [HOk, Fld.f, s_laws_heldAttrS.x]) r h0 h1)
theorem s_laws_markSpan {x : Span} {v : AV} {F : List Nat} {n : Nat} {m : Int} {h : AH} (r : SlRep h v x.attrs F) (o : Own n h F) (h0 : 0 ≤ m) (h1 : (mks m x.attrs).2 ≤ 1099511627776) : ACalls Tryz.prog n_laws_markSpan [.agg (x.cs v), .int .i64 m] h fun r h' => r = .int .i64 (mks m x.attrs).2 ∧ Kp h h' F ∧ SlRep h' v (mks m x.attrs).1 F ∧ Own n h' F := by
  refine c_laws_markSpan _ _ ?_
  unfold p_laws_markSpan
  (repeat' first|refine vs ?_|(refine br ?_ ?_<;>intro _<;>try(exfalso;first|omega|contradiction))|((with_reducible refine g_idx ?_);((first|refine ix ?_|refine ixi ?_|(refine ixg ?_;intro _ _)|(refine ixgi ?_;intro _ _));first|rintro _ _ _ _ _ ⟨rfl,rfl⟩ _|rintro _ _ _ _ _ ⟨_,rfl,_⟩ _|rintro _ _ _ _ _ ⟨_,_,_,_,rfl,rfl,_,_⟩ _|intro _ _ _ _ _ _ _))|(refine sx ?_;intro _ _)|((with_reducible refine g_awp ?_);simp only [g0,g1,g2]))
  refine aw_call (s_laws_markAttrS _ _ F n _ _ slr_auto (o.ext ((Ext.refl h).push _) r.lt) h0 h1) ?_
  rintro _ h2 ⟨rfl, k2, q2, o2⟩
  (repeat' first|refine vs ?_|(refine br ?_ ?_<;>intro _<;>try(exfalso;first|omega|contradiction))|((with_reducible refine g_idx ?_);((first|refine ix ?_|refine ixi ?_|(refine ixg ?_;intro _ _)|(refine ixgi ?_;intro _ _));first|rintro _ _ _ _ _ ⟨rfl,rfl⟩ _|rintro _ _ _ _ _ ⟨_,rfl,_⟩ _|rintro _ _ _ _ _ ⟨_,_,_,_,rfl,rfl,_,_⟩ _|intro _ _ _ _ _ _ _))|(refine sx ?_;intro _ _)|((with_reducible refine g_awp ?_);simp only [g0,g1,g2]))
  exact ⟨rfl, _, rfl, rfl, (Kp.of_ext ((Ext.refl h).push _)).trans k2, q2, o2⟩
end Go.Proofs.YtekfdoknfcedpaaGreat
end
section
/- Trail: marks. Written by mkm.py. -/
set_option linter.unusedSimpArgs false
set_option linter.unusedVariables false
set_option maxHeartbeats 1000000
namespace Go.Proofs.YtekfdoknfcedpaaGreat
open Go Go.Ab
section
/- laws.markTrailS -/
def p_laws_markTrailS (x0 x1 : AV) : Prog := .loop [x1, .int .i64 0] (fun a=>Ln 0 x0 fun b=>Bn .lss (g a 1) b fun b=>.ite b (Ix 4 x0 (g a 1) fun b=>Sg 0 b (g a 0) fun _=>Bn .add (g a 0) (.int .i64 1) fun b=>Ix 4 x0 (g a 1) fun c=>Sg 1 c b fun _=>Bn .add b (.int .i64 1) fun b=>Ix 4 x0 (g a 1) fun c=>Sg 2 c b fun _=>Bn .add b (.int .i64 1) fun b=>Ix 4 x0 (g a 1) fun c=>Lg 3 c fun c=>Cl n_laws_markSpanS [c, b] fun b=>Bn .add (g a 1) (.int .i64 1) fun a=>.leaf 0 [b, a]) (.leaf 2 [g a 0, g a 1])) fun a b=>tsel a 1 (.leaf 1 b) (tsel a 2 (.fin [.val (g b 0)]) .bad)
theorem c_laws_markTrailS (x0 x1 : AV) : CC Tryz.prog n_laws_markTrailS [x0, x1] (p_laws_markTrailS x0 x1) := cc Tryz.func144 [0, 1, 5] (fun _ => [])
/- laws.heldTrailS -/
def p_laws_heldTrailS (x0 x1 : AV) : Prog := .loop [x1, .int .i64 0] (fun a=>Ln 0 x0 fun b=>Bn .lss (g a 1) b fun b=>.ite b (Ix 4 x0 (g a 1) fun b=>Lg 0 b fun b=>Bn .neq b (g a 0) fun b=>.ite b (.fin [.val (.int .i64 (-1))]) (Bn .add (g a 0) (.int .i64 1) fun b=>Ix 4 x0 (g a 1) fun c=>Lg 1 c fun c=>Bn .neq c b fun c=>.ite c (.fin [.val (.int .i64 (-1))]) (Bn .add b (.int .i64 1) fun b=>Ix 4 x0 (g a 1) fun c=>Lg 2 c fun c=>Bn .neq c b fun c=>.ite c (.fin [.val (.int .i64 (-1))]) (Bn .add b (.int .i64 1) fun b=>Ix 4 x0 (g a 1) fun c=>Lg 3 c fun c=>Cl n_laws_heldSpanS [c, b] fun b=>Bn .lss b (.int .i64 0) fun c=>.ite c (.fin [.val (.int .i64 (-1))]) (Bn .add (g a 1) (.int .i64 1) fun a=>.leaf 0 [b, a]))))) (.leaf 2 [g a 0, g a 1])) fun a b=>tsel a 1 (.leaf 1 b) (tsel a 2 (.fin [.val (g b 0)]) .bad)
theorem c_laws_heldTrailS (x0 x1 : AV) : CC Tryz.prog n_laws_heldTrailS [x0, x1] (p_laws_heldTrailS x0 x1) := cc Tryz.func147 [0, 1, 5] (fun _ => [])
end
theorem s_laws_markTrailS : MarkS Trail Tryz.prog n_laws_markTrailS := fun xs v F n m h r o h0 h1 => c_laws_markTrailS _ _ (Prog.awp_mono _ (pMark_spec (w := 4) rfl (ss := [([0], .i), ([1], .i), ([2], .i), ([3], .l n_laws_markSpanS)]) (fun x _ => by simp [MOk, Fld.f, s_laws_markSpanS.x]) r o h0 h1) fun _ _ _ x => x)
theorem s_laws_heldTrailS : HeldS Trail Tryz.prog n_laws_heldTrailS := fun xs v F m h r h0 h1 => reader (c_laws_heldTrailS _ _) (by simp only [old]) (pHeld_spec (w := 4) rfl (ss := [([0], .i), ([1], .i), ([2], .i), ([3], .l n_laws_heldSpanS)]) (fun x _ => by simp [HOk, Fld.f, s_laws_heldSpanS.x]) r h0 h1)
end Go.Proofs.YtekfdoknfcedpaaGreat
end
section
/- Stripe: marks. Written by mkm.py. -/
set_option linter.unusedSimpArgs false
set_option linter.unusedVariables false
set_option maxHeartbeats 1000000
namespace Go.Proofs.YtekfdoknfcedpaaGreat
open Go Go.Ab
section
/- laws.markStripeS -/
def p_laws_markStripeS (x0 x1 : AV) : Prog := .loop [x1, .int .i64 0] (fun a=>Ln 0 x0 fun b=>Bn .lss (g a 1) b fun b=>.ite b (Ix 2 x0 (g a 1) fun b=>Sg 0 b (g a 0) fun _=>Bn .add (g a 0) (.int .i64 1) fun b=>Ix 2 x0 (g a 1) fun c=>Lg 1 c fun c=>Cl n_laws_markTrailS [c, b] fun b=>Bn .add (g a 1) (.int .i64 1) fun a=>.leaf 0 [b, a]) (.leaf 2 [g a 0, g a 1])) fun a b=>tsel a 1 (.leaf 1 b) (tsel a 2 (.fin [.val (g b 0)]) .bad)
theorem c_laws_markStripeS (x0 x1 : AV) : CC Tryz.prog n_laws_markStripeS [x0, x1] (p_laws_markStripeS x0 x1) := cc Tryz.func58 [0, 1, 5] (fun _ => [])
/- laws.heldStripeS -/
def p_laws_heldStripeS (x0 x1 : AV) : Prog := .loop [x1, .int .i64 0] (fun a=>Ln 0 x0 fun b=>Bn .lss (g a 1) b fun b=>.ite b (Ix 2 x0 (g a 1) fun b=>Lg 0 b fun b=>Bn .neq b (g a 0) fun b=>.ite b (.fin [.val (.int .i64 (-1))]) (Bn .add (g a 0) (.int .i64 1) fun b=>Ix 2 x0 (g a 1) fun c=>Lg 1 c fun c=>Cl n_laws_heldTrailS [c, b] fun b=>Bn .lss b (.int .i64 0) fun c=>.ite c (.fin [.val (.int .i64 (-1))]) (Bn .add (g a 1) (.int .i64 1) fun a=>.leaf 0 [b, a]))) (.leaf 2 [g a 0, g a 1])) fun a b=>tsel a 1 (.leaf 1 b) (tsel a 2 (.fin [.val (g b 0)]) .bad)
theorem c_laws_heldStripeS (x0 x1 : AV) : CC Tryz.prog n_laws_heldStripeS [x0, x1] (p_laws_heldStripeS x0 x1) := cc Tryz.func66 [0, 1, 5] (fun _ => [])
end
theorem s_laws_markStripeS : MarkS Stripe Tryz.prog n_laws_markStripeS := fun xs v F n m h r o h0 h1 => c_laws_markStripeS _ _ (Prog.awp_mono _ (pMark_spec (w := 2) rfl (ss := [([0], .i), ([1], .l n_laws_markTrailS)]) (fun x _ => by simp [MOk, Fld.f, s_laws_markTrailS.x]) r o h0 h1) fun _ _ _ x => x)
theorem s_laws_heldStripeS : HeldS Stripe Tryz.prog n_laws_heldStripeS := fun xs v F m h r h0 h1 => reader (c_laws_heldStripeS _ _) (by simp only [old]) (pHeld_spec (w := 2) rfl (ss := [([0], .i), ([1], .l n_laws_heldTrailS)]) (fun x _ => by simp [HOk, Fld.f, s_laws_heldTrailS.x]) r h0 h1)
end Go.Proofs.YtekfdoknfcedpaaGreat
end
section
/- Item: marks. Written by mkm.py. -/
set_option linter.unusedSimpArgs false
set_option linter.unusedVariables false
set_option maxHeartbeats 1000000
namespace Go.Proofs.YtekfdoknfcedpaaGreat
open Go Go.Ab
section
/- laws.markItemS -/
def p_laws_markItemS (x0 x1 : AV) : Prog := .loop [x1, .int .i64 0] (fun a=>Ln 0 x0 fun b=>Bn .lss (g a 1) b fun b=>.ite b (Ix 7 x0 (g a 1) fun b=>Sg 0 b (g a 0) fun _=>Bn .add (g a 0) (.int .i64 1) fun b=>Ix 7 x0 (g a 1) fun c=>.op (.fad 1 c) fun c=>Sg 0 c b fun _=>Bn .add b (.int .i64 1) fun b=>Ix 7 x0 (g a 1) fun c=>.op (.fad 1 c) fun c=>Sg 1 c b fun _=>Bn .add b (.int .i64 1) fun b=>Ix 7 x0 (g a 1) fun c=>.op (.fad 1 c) fun c=>Sg 2 c b fun _=>Bn .add b (.int .i64 1) fun b=>Ix 7 x0 (g a 1) fun c=>.op (.fad 1 c) fun c=>Sg 3 c b fun _=>Bn .add b (.int .i64 1) fun b=>Bn .rem b (.int .i64 3) fun c=>Bn .eql c (.int .i64 0) fun c=>Ix 7 x0 (g a 1) fun d=>.op (.fad 1 d) fun d=>Sg 4 d c fun _=>Bn .add b (.int .i64 1) fun b=>Ix 7 x0 (g a 1) fun c=>.op (.fad 1 c) fun c=>Lg 5 c fun c=>Cl n_laws_markAttrS [c, b] fun b=>Bn .add (g a 1) (.int .i64 1) fun a=>.leaf 0 [b, a]) (.leaf 2 [g a 0, g a 1])) fun a b=>tsel a 1 (.leaf 1 b) (tsel a 2 (.fin [.val (g b 0)]) .bad)
theorem c_laws_markItemS (x0 x1 : AV) : CC Tryz.prog n_laws_markItemS [x0, x1] (p_laws_markItemS x0 x1) := cc Tryz.func62 [0, 1, 5] (fun _ => [])
/- laws.heldItemS -/
def p_laws_heldItemS (x0 x1 : AV) : Prog := .loop [x1, .int .i64 0] (fun a=>Ln 0 x0 fun b=>Bn .lss (g a 1) b fun b=>.ite b (Ix 7 x0 (g a 1) fun b=>Lg 0 b fun b=>Bn .neq b (g a 0) fun b=>.ite b (.fin [.val (.int .i64 (-1))]) (Bn .add (g a 0) (.int .i64 1) fun b=>Ix 7 x0 (g a 1) fun c=>.op (.fad 1 c) fun c=>Lg 0 c fun c=>Bn .neq c b fun c=>.ite c (.fin [.val (.int .i64 (-1))]) (Bn .add b (.int .i64 1) fun b=>Ix 7 x0 (g a 1) fun c=>.op (.fad 1 c) fun c=>Lg 1 c fun c=>Bn .neq c b fun c=>.ite c (.fin [.val (.int .i64 (-1))]) (Bn .add b (.int .i64 1) fun b=>Ix 7 x0 (g a 1) fun c=>.op (.fad 1 c) fun c=>Lg 2 c fun c=>Bn .neq c b fun c=>.ite c (.fin [.val (.int .i64 (-1))]) (Bn .add b (.int .i64 1) fun b=>Ix 7 x0 (g a 1) fun c=>.op (.fad 1 c) fun c=>Lg 3 c fun c=>Bn .neq c b fun c=>.ite c (.fin [.val (.int .i64 (-1))]) (Bn .add b (.int .i64 1) fun b=>Ix 7 x0 (g a 1) fun c=>.op (.fad 1 c) fun c=>Lg 4 c fun c=>Bn .rem b (.int .i64 3) fun d=>Bn .eql d (.int .i64 0) fun d=>.op (.bin 2 .neq c d) fun c=>.ite c (.fin [.val (.int .i64 (-1))]) (Bn .add b (.int .i64 1) fun b=>Ix 7 x0 (g a 1) fun c=>.op (.fad 1 c) fun c=>Lg 5 c fun c=>Cl n_laws_heldAttrS [c, b] fun b=>Bn .lss b (.int .i64 0) fun c=>.ite c (.fin [.val (.int .i64 (-1))]) (Bn .add (g a 1) (.int .i64 1) fun a=>.leaf 0 [b, a])))))))) (.leaf 2 [g a 0, g a 1])) fun a b=>tsel a 1 (.leaf 1 b) (tsel a 2 (.fin [.val (g b 0)]) .bad)
theorem c_laws_heldItemS (x0 x1 : AV) : CC Tryz.prog n_laws_heldItemS [x0, x1] (p_laws_heldItemS x0 x1) := cc Tryz.func70 [0, 1, 5] (fun _ => [])
end
theorem s_laws_markItemS : MarkS Itm Tryz.prog n_laws_markItemS := fun xs v F n m h r o h0 h1 => c_laws_markItemS _ _ (Prog.awp_mono _ (pMark_spec (w := 7) rfl (ss := [([0], .i), ([1, 0], .i), ([1, 1], .i), ([1, 2], .i), ([1, 3], .i), ([1, 4], .b), ([1, 5], .l n_laws_markAttrS)]) (fun x _ => by simp [MOk, Fld.f, s_laws_markAttrS.x]) r o h0 h1) fun _ _ _ x => x)
theorem s_laws_heldItemS : HeldS Itm Tryz.prog n_laws_heldItemS := fun xs v F m h r h0 h1 => reader (c_laws_heldItemS _ _) (by simp only [old]) (pHeld_spec (w := 7) rfl (ss := [([0], .i), ([1, 0], .i), ([1, 1], .i), ([1, 2], .i), ([1, 3], .i), ([1, 4], .b), ([1, 5], .l n_laws_heldAttrS)]) (fun x _ => by simp [HOk, Fld.f, s_laws_heldAttrS.x]) r h0 h1)
end Go.Proofs.YtekfdoknfcedpaaGreat
end
section
/- Task: marks. Written by mkm.py. -/
set_option linter.unusedSimpArgs false
set_option linter.unusedVariables false
set_option maxHeartbeats 1000000
namespace Go.Proofs.YtekfdoknfcedpaaGreat
open Go Go.Ab
section
/- laws.markTaskS -/
def p_laws_markTaskS (x0 x1 : AV) : Prog := .loop [x1, .int .i64 0] (fun a=>Ln 0 x0 fun b=>Bn .lss (g a 1) b fun b=>.ite b (Ix 12 x0 (g a 1) fun b=>Sg 0 b (g a 0) fun _=>Bn .add (g a 0) (.int .i64 1) fun b=>Ix 12 x0 (g a 1) fun c=>Sg 1 c b fun _=>Bn .add b (.int .i64 1) fun b=>Ix 12 x0 (g a 1) fun c=>.op (.fad 2 c) fun c=>Sg 0 c b fun _=>Bn .add b (.int .i64 1) fun b=>Ix 12 x0 (g a 1) fun c=>.op (.fad 2 c) fun c=>Sg 1 c b fun _=>Bn .add b (.int .i64 1) fun b=>Ix 12 x0 (g a 1) fun c=>.op (.fad 2 c) fun c=>Sg 2 c b fun _=>Bn .add b (.int .i64 1) fun b=>Ix 12 x0 (g a 1) fun c=>.op (.fad 2 c) fun c=>Sg 3 c b fun _=>Bn .add b (.int .i64 1) fun b=>Bn .rem b (.int .i64 3) fun c=>Bn .eql c (.int .i64 0) fun c=>Ix 12 x0 (g a 1) fun d=>.op (.fad 2 d) fun d=>Sg 4 d c fun _=>Bn .add b (.int .i64 1) fun b=>Ix 12 x0 (g a 1) fun c=>.op (.fad 2 c) fun c=>Lg 5 c fun c=>Cl n_laws_markAttrS [c, b] fun b=>Ix 12 x0 (g a 1) fun c=>Sg 8 c b fun _=>Bn .add b (.int .i64 1) fun b=>Ix 12 x0 (g a 1) fun c=>Sg 9 c b fun _=>Bn .add b (.int .i64 1) fun b=>Ix 12 x0 (g a 1) fun c=>Lg 10 c fun c=>Cl n_laws_markItemS [c, b] fun b=>Ix 12 x0 (g a 1) fun c=>Sg 11 c b fun _=>Bn .add b (.int .i64 1) fun b=>Bn .add (g a 1) (.int .i64 1) fun a=>.leaf 0 [b, a]) (.leaf 2 [g a 0, g a 1])) fun a b=>tsel a 1 (.leaf 1 b) (tsel a 2 (.fin [.val (g b 0)]) .bad)
theorem c_laws_markTaskS (x0 x1 : AV) : CC Tryz.prog n_laws_markTaskS [x0, x1] (p_laws_markTaskS x0 x1) := cc Tryz.func63 [0, 1, 5] (fun _ => [])
/- laws.heldTaskS -/
def p_laws_heldTaskS (x0 x1 : AV) : Prog := .loop [x1, .int .i64 0] (fun a=>Ln 0 x0 fun b=>Bn .lss (g a 1) b fun b=>.ite b (Ix 12 x0 (g a 1) fun b=>Lg 0 b fun b=>Bn .neq b (g a 0) fun b=>.ite b (.fin [.val (.int .i64 (-1))]) (Bn .add (g a 0) (.int .i64 1) fun b=>Ix 12 x0 (g a 1) fun c=>Lg 1 c fun c=>Bn .neq c b fun c=>.ite c (.fin [.val (.int .i64 (-1))]) (Bn .add b (.int .i64 1) fun b=>Ix 12 x0 (g a 1) fun c=>.op (.fad 2 c) fun c=>Lg 0 c fun c=>Bn .neq c b fun c=>.ite c (.fin [.val (.int .i64 (-1))]) (Bn .add b (.int .i64 1) fun b=>Ix 12 x0 (g a 1) fun c=>.op (.fad 2 c) fun c=>Lg 1 c fun c=>Bn .neq c b fun c=>.ite c (.fin [.val (.int .i64 (-1))]) (Bn .add b (.int .i64 1) fun b=>Ix 12 x0 (g a 1) fun c=>.op (.fad 2 c) fun c=>Lg 2 c fun c=>Bn .neq c b fun c=>.ite c (.fin [.val (.int .i64 (-1))]) (Bn .add b (.int .i64 1) fun b=>Ix 12 x0 (g a 1) fun c=>.op (.fad 2 c) fun c=>Lg 3 c fun c=>Bn .neq c b fun c=>.ite c (.fin [.val (.int .i64 (-1))]) (Bn .add b (.int .i64 1) fun b=>Ix 12 x0 (g a 1) fun c=>.op (.fad 2 c) fun c=>Lg 4 c fun c=>Bn .rem b (.int .i64 3) fun d=>Bn .eql d (.int .i64 0) fun d=>.op (.bin 2 .neq c d) fun c=>.ite c (.fin [.val (.int .i64 (-1))]) (Bn .add b (.int .i64 1) fun b=>Ix 12 x0 (g a 1) fun c=>.op (.fad 2 c) fun c=>Lg 5 c fun c=>Cl n_laws_heldAttrS [c, b] fun b=>Bn .lss b (.int .i64 0) fun c=>.ite c (.fin [.val (.int .i64 (-1))]) (Ix 12 x0 (g a 1) fun c=>Lg 8 c fun c=>Bn .neq c b fun c=>.ite c (.fin [.val (.int .i64 (-1))]) (Bn .add b (.int .i64 1) fun b=>Ix 12 x0 (g a 1) fun c=>Lg 9 c fun c=>Bn .neq c b fun c=>.ite c (.fin [.val (.int .i64 (-1))]) (Bn .add b (.int .i64 1) fun b=>Ix 12 x0 (g a 1) fun c=>Lg 10 c fun c=>Cl n_laws_heldItemS [c, b] fun b=>Bn .lss b (.int .i64 0) fun c=>.ite c (.fin [.val (.int .i64 (-1))]) (Ix 12 x0 (g a 1) fun c=>Lg 11 c fun c=>Bn .neq c b fun c=>.ite c (.fin [.val (.int .i64 (-1))]) (Bn .add b (.int .i64 1) fun b=>Bn .add (g a 1) (.int .i64 1) fun a=>.leaf 0 [b, a]))))))))))))) (.leaf 2 [g a 0, g a 1])) fun a b=>tsel a 1 (.leaf 1 b) (tsel a 2 (.fin [.val (g b 0)]) .bad)
theorem c_laws_heldTaskS (x0 x1 : AV) : CC Tryz.prog n_laws_heldTaskS [x0, x1] (p_laws_heldTaskS x0 x1) := cc Tryz.func71 [0, 1, 5] (fun _ => [])
end
theorem s_laws_markTaskS : MarkS Task Tryz.prog n_laws_markTaskS := fun xs v F n m h r o h0 h1 => c_laws_markTaskS _ _ (Prog.awp_mono _ (pMark_spec (w := 12) rfl (ss := [([0], .i), ([1], .i), ([2, 0], .i), ([2, 1], .i), ([2, 2], .i), ([2, 3], .i), ([2, 4], .b), ([2, 5], .l n_laws_markAttrS), ([8], .i), ([9], .i), ([10], .l n_laws_markItemS), ([11], .i)]) (fun x _ => by simp [MOk, Fld.f, s_laws_markAttrS.x, s_laws_markItemS.x]) r o h0 h1) fun _ _ _ x => x)
theorem s_laws_heldTaskS : HeldS Task Tryz.prog n_laws_heldTaskS := fun xs v F m h r h0 h1 => reader (c_laws_heldTaskS _ _) (by simp only [old]) (pHeld_spec (w := 12) rfl (ss := [([0], .i), ([1], .i), ([2, 0], .i), ([2, 1], .i), ([2, 2], .i), ([2, 3], .i), ([2, 4], .b), ([2, 5], .l n_laws_heldAttrS), ([8], .i), ([9], .i), ([10], .l n_laws_heldItemS), ([11], .i)]) (fun x _ => by simp [HOk, Fld.f, s_laws_heldAttrS.x, s_laws_heldItemS.x]) r h0 h1)
end Go.Proofs.YtekfdoknfcedpaaGreat
end
section
/- Deed: marks. Written by mkm.py. -/
set_option linter.unusedSimpArgs false
set_option linter.unusedVariables false
set_option maxHeartbeats 1000000
namespace Go.Proofs.YtekfdoknfcedpaaGreat
open Go Go.Ab
section
/- laws.markDeedS -/
def p_laws_markDeedS (x0 x1 : AV) : Prog := .loop [x1, .int .i64 0] (fun a=>Ln 0 x0 fun b=>Bn .lss (g a 1) b fun b=>.ite b (Ix 20 x0 (g a 1) fun b=>Sg 0 b (g a 0) fun _=>Bn .add (g a 0) (.int .i64 1) fun b=>Ix 20 x0 (g a 1) fun c=>Sg 1 c b fun _=>Bn .add b (.int .i64 1) fun b=>Ix 20 x0 (g a 1) fun c=>.op (.fad 2 c) fun c=>Sg 0 c b fun _=>Bn .add b (.int .i64 1) fun b=>Ix 20 x0 (g a 1) fun c=>.op (.fad 2 c) fun c=>Sg 1 c b fun _=>Bn .add b (.int .i64 1) fun b=>Ix 20 x0 (g a 1) fun c=>.op (.fad 2 c) fun c=>Sg 2 c b fun _=>Bn .add b (.int .i64 1) fun b=>Ix 20 x0 (g a 1) fun c=>.op (.fad 2 c) fun c=>Sg 3 c b fun _=>Bn .add b (.int .i64 1) fun b=>Bn .rem b (.int .i64 3) fun c=>Bn .eql c (.int .i64 0) fun c=>Ix 20 x0 (g a 1) fun d=>.op (.fad 2 d) fun d=>Sg 4 d c fun _=>Bn .add b (.int .i64 1) fun b=>Ix 20 x0 (g a 1) fun c=>.op (.fad 2 c) fun c=>Lg 5 c fun c=>Cl n_laws_markAttrS [c, b] fun b=>Ix 20 x0 (g a 1) fun c=>Sg 8 c b fun _=>Bn .add b (.int .i64 1) fun b=>Ix 20 x0 (g a 1) fun c=>Sg 9 c b fun _=>Bn .add b (.int .i64 1) fun b=>Ix 20 x0 (g a 1) fun c=>Sg 10 c b fun _=>Bn .add b (.int .i64 1) fun b=>Bn .rem b (.int .i64 3) fun c=>Bn .eql c (.int .i64 0) fun c=>Ix 20 x0 (g a 1) fun d=>Sg 11 d c fun _=>Bn .add b (.int .i64 1) fun b=>Bn .rem b (.int .i64 3) fun c=>Bn .eql c (.int .i64 0) fun c=>Ix 20 x0 (g a 1) fun d=>Sg 12 d c fun _=>Bn .add b (.int .i64 1) fun b=>Ix 20 x0 (g a 1) fun c=>Sg 13 c b fun _=>Bn .add b (.int .i64 1) fun b=>Ix 20 x0 (g a 1) fun c=>Sg 14 c b fun _=>Bn .add b (.int .i64 1) fun b=>Ix 20 x0 (g a 1) fun c=>Sg 15 c b fun _=>Bn .add b (.int .i64 1) fun b=>Ix 20 x0 (g a 1) fun c=>Sg 16 c b fun _=>Bn .add b (.int .i64 1) fun b=>Ix 20 x0 (g a 1) fun c=>Sg 17 c b fun _=>Bn .add b (.int .i64 1) fun b=>Ix 20 x0 (g a 1) fun c=>Sg 18 c b fun _=>Bn .add b (.int .i64 1) fun b=>Ix 20 x0 (g a 1) fun c=>Sg 19 c b fun _=>Bn .add b (.int .i64 1) fun b=>Bn .add (g a 1) (.int .i64 1) fun a=>.leaf 0 [b, a]) (.leaf 2 [g a 0, g a 1])) fun a b=>tsel a 1 (.leaf 1 b) (tsel a 2 (.fin [.val (g b 0)]) .bad)
theorem c_laws_markDeedS (x0 x1 : AV) : CC Tryz.prog n_laws_markDeedS [x0, x1] (p_laws_markDeedS x0 x1) := cc Tryz.func64 [0, 1, 5] (fun _ => [])
/- laws.heldDeedS -/
def p_laws_heldDeedS (x0 x1 : AV) : Prog := .loop [x1, .int .i64 0] (fun a=>Ln 0 x0 fun b=>Bn .lss (g a 1) b fun b=>.ite b (Ix 20 x0 (g a 1) fun b=>Lg 0 b fun b=>Bn .neq b (g a 0) fun b=>.ite b (.fin [.val (.int .i64 (-1))]) (Bn .add (g a 0) (.int .i64 1) fun b=>Ix 20 x0 (g a 1) fun c=>Lg 1 c fun c=>Bn .neq c b fun c=>.ite c (.fin [.val (.int .i64 (-1))]) (Bn .add b (.int .i64 1) fun b=>Ix 20 x0 (g a 1) fun c=>.op (.fad 2 c) fun c=>Lg 0 c fun c=>Bn .neq c b fun c=>.ite c (.fin [.val (.int .i64 (-1))]) (Bn .add b (.int .i64 1) fun b=>Ix 20 x0 (g a 1) fun c=>.op (.fad 2 c) fun c=>Lg 1 c fun c=>Bn .neq c b fun c=>.ite c (.fin [.val (.int .i64 (-1))]) (Bn .add b (.int .i64 1) fun b=>Ix 20 x0 (g a 1) fun c=>.op (.fad 2 c) fun c=>Lg 2 c fun c=>Bn .neq c b fun c=>.ite c (.fin [.val (.int .i64 (-1))]) (Bn .add b (.int .i64 1) fun b=>Ix 20 x0 (g a 1) fun c=>.op (.fad 2 c) fun c=>Lg 3 c fun c=>Bn .neq c b fun c=>.ite c (.fin [.val (.int .i64 (-1))]) (Bn .add b (.int .i64 1) fun b=>Ix 20 x0 (g a 1) fun c=>.op (.fad 2 c) fun c=>Lg 4 c fun c=>Bn .rem b (.int .i64 3) fun d=>Bn .eql d (.int .i64 0) fun d=>.op (.bin 2 .neq c d) fun c=>.ite c (.fin [.val (.int .i64 (-1))]) (Bn .add b (.int .i64 1) fun b=>Ix 20 x0 (g a 1) fun c=>.op (.fad 2 c) fun c=>Lg 5 c fun c=>Cl n_laws_heldAttrS [c, b] fun b=>Bn .lss b (.int .i64 0) fun c=>.ite c (.fin [.val (.int .i64 (-1))]) (Ix 20 x0 (g a 1) fun c=>Lg 8 c fun c=>Bn .neq c b fun c=>.ite c (.fin [.val (.int .i64 (-1))]) (Bn .add b (.int .i64 1) fun b=>Ix 20 x0 (g a 1) fun c=>Lg 9 c fun c=>Bn .neq c b fun c=>.ite c (.fin [.val (.int .i64 (-1))]) (Bn .add b (.int .i64 1) fun b=>Ix 20 x0 (g a 1) fun c=>Lg 10 c fun c=>Bn .neq c b fun c=>.ite c (.fin [.val (.int .i64 (-1))]) (Bn .add b (.int .i64 1) fun b=>Ix 20 x0 (g a 1) fun c=>Lg 11 c fun c=>Bn .rem b (.int .i64 3) fun d=>Bn .eql d (.int .i64 0) fun d=>.op (.bin 2 .neq c d) fun c=>.ite c (.fin [.val (.int .i64 (-1))]) (Bn .add b (.int .i64 1) fun b=>Ix 20 x0 (g a 1) fun c=>Lg 12 c fun c=>Bn .rem b (.int .i64 3) fun d=>Bn .eql d (.int .i64 0) fun d=>.op (.bin 2 .neq c d) fun c=>.ite c (.fin [.val (.int .i64 (-1))]) (Bn .add b (.int .i64 1) fun b=>Ix 20 x0 (g a 1) fun c=>Lg 13 c fun c=>Bn .neq c b fun c=>.ite c (.fin [.val (.int .i64 (-1))]) (Bn .add b (.int .i64 1) fun b=>Ix 20 x0 (g a 1) fun c=>Lg 14 c fun c=>Bn .neq c b fun c=>.ite c (.fin [.val (.int .i64 (-1))]) (Bn .add b (.int .i64 1) fun b=>Ix 20 x0 (g a 1) fun c=>Lg 15 c fun c=>Bn .neq c b fun c=>.ite c (.fin [.val (.int .i64 (-1))]) (Bn .add b (.int .i64 1) fun b=>Ix 20 x0 (g a 1) fun c=>Lg 16 c fun c=>Bn .neq c b fun c=>.ite c (.fin [.val (.int .i64 (-1))]) (Bn .add b (.int .i64 1) fun b=>Ix 20 x0 (g a 1) fun c=>Lg 17 c fun c=>Bn .neq c b fun c=>.ite c (.fin [.val (.int .i64 (-1))]) (Bn .add b (.int .i64 1) fun b=>Ix 20 x0 (g a 1) fun c=>Lg 18 c fun c=>Bn .neq c b fun c=>.ite c (.fin [.val (.int .i64 (-1))]) (Bn .add b (.int .i64 1) fun b=>Ix 20 x0 (g a 1) fun c=>Lg 19 c fun c=>Bn .neq c b fun c=>.ite c (.fin [.val (.int .i64 (-1))]) (Bn .add b (.int .i64 1) fun b=>Bn .add (g a 1) (.int .i64 1) fun a=>.leaf 0 [b, a]))))))))))))))))))))) (.leaf 2 [g a 0, g a 1])) fun a b=>tsel a 1 (.leaf 1 b) (tsel a 2 (.fin [.val (g b 0)]) .bad)
theorem c_laws_heldDeedS (x0 x1 : AV) : CC Tryz.prog n_laws_heldDeedS [x0, x1] (p_laws_heldDeedS x0 x1) := cc Tryz.func72 [0, 1, 5] (fun _ => [])
end
theorem s_laws_markDeedS : MarkS Deed Tryz.prog n_laws_markDeedS := fun xs v F n m h r o h0 h1 => c_laws_markDeedS _ _ (Prog.awp_mono _ (pMark_spec (w := 20) rfl (ss := [([0], .i), ([1], .i), ([2, 0], .i), ([2, 1], .i), ([2, 2], .i), ([2, 3], .i), ([2, 4], .b), ([2, 5], .l n_laws_markAttrS), ([8], .i), ([9], .i), ([10], .i), ([11], .b), ([12], .b), ([13], .i), ([14], .i), ([15], .i), ([16], .i), ([17], .i), ([18], .i), ([19], .i)]) (fun x _ => by simp [MOk, Fld.f, s_laws_markAttrS.x]) r o h0 h1) fun _ _ _ x => x)
theorem s_laws_heldDeedS : HeldS Deed Tryz.prog n_laws_heldDeedS := fun xs v F m h r h0 h1 => reader (c_laws_heldDeedS _ _) (by simp only [old]) (pHeld_spec (w := 20) rfl (ss := [([0], .i), ([1], .i), ([2, 0], .i), ([2, 1], .i), ([2, 2], .i), ([2, 3], .i), ([2, 4], .b), ([2, 5], .l n_laws_heldAttrS), ([8], .i), ([9], .i), ([10], .i), ([11], .b), ([12], .b), ([13], .i), ([14], .i), ([15], .i), ([16], .i), ([17], .i), ([18], .i), ([19], .i)]) (fun x _ => by simp [HOk, Fld.f, s_laws_heldAttrS.x]) r h0 h1)
end Go.Proofs.YtekfdoknfcedpaaGreat
end
section
/- Timer: marks. Written by mkm.py. -/
set_option linter.unusedSimpArgs false
set_option linter.unusedVariables false
set_option maxHeartbeats 1000000
namespace Go.Proofs.YtekfdoknfcedpaaGreat
open Go Go.Ab
section
/- laws.markTimerS -/
def p_laws_markTimerS (x0 x1 : AV) : Prog := .loop [x1, .int .i64 0] (fun a=>Ln 0 x0 fun b=>Bn .lss (g a 1) b fun b=>.ite b (Ix 3 x0 (g a 1) fun b=>Sg 0 b (g a 0) fun _=>Bn .add (g a 0) (.int .i64 1) fun b=>Ix 3 x0 (g a 1) fun c=>Sg 1 c b fun _=>Bn .add b (.int .i64 1) fun b=>Ix 3 x0 (g a 1) fun c=>Sg 2 c b fun _=>Bn .add b (.int .i64 1) fun b=>Bn .add (g a 1) (.int .i64 1) fun a=>.leaf 0 [b, a]) (.leaf 2 [g a 0, g a 1])) fun a b=>tsel a 1 (.leaf 1 b) (tsel a 2 (.fin [.val (g b 0)]) .bad)
theorem c_laws_markTimerS (x0 x1 : AV) : CC Tryz.prog n_laws_markTimerS [x0, x1] (p_laws_markTimerS x0 x1) := cc Tryz.func61 [0, 1, 5] (fun _ => [])
/- laws.heldTimerS -/
def p_laws_heldTimerS (x0 x1 : AV) : Prog := .loop [x1, .int .i64 0] (fun a=>Ln 0 x0 fun b=>Bn .lss (g a 1) b fun b=>.ite b (Ix 3 x0 (g a 1) fun b=>Lg 0 b fun b=>Bn .neq b (g a 0) fun b=>.ite b (.fin [.val (.int .i64 (-1))]) (Bn .add (g a 0) (.int .i64 1) fun b=>Ix 3 x0 (g a 1) fun c=>Lg 1 c fun c=>Bn .neq c b fun c=>.ite c (.fin [.val (.int .i64 (-1))]) (Bn .add b (.int .i64 1) fun b=>Ix 3 x0 (g a 1) fun c=>Lg 2 c fun c=>Bn .neq c b fun c=>.ite c (.fin [.val (.int .i64 (-1))]) (Bn .add b (.int .i64 1) fun b=>Bn .add (g a 1) (.int .i64 1) fun a=>.leaf 0 [b, a])))) (.leaf 2 [g a 0, g a 1])) fun a b=>tsel a 1 (.leaf 1 b) (tsel a 2 (.fin [.val (g b 0)]) .bad)
theorem c_laws_heldTimerS (x0 x1 : AV) : CC Tryz.prog n_laws_heldTimerS [x0, x1] (p_laws_heldTimerS x0 x1) := cc Tryz.func69 [0, 1, 5] (fun _ => [])
end
theorem s_laws_markTimerS : MarkS Ab.Timer Tryz.prog n_laws_markTimerS := fun xs v F n m h r o h0 h1 => c_laws_markTimerS _ _ (Prog.awp_mono _ (pMark_spec (w := 3) rfl (ss := [([0], .i), ([1], .i), ([2], .i)]) (fun x _ => by simp [MOk, Fld.f]) r o h0 h1) fun _ _ _ x => x)
theorem s_laws_heldTimerS : HeldS Ab.Timer Tryz.prog n_laws_heldTimerS := fun xs v F m h r h0 h1 => reader (c_laws_heldTimerS _ _) (by simp only [old]) (pHeld_spec (w := 3) rfl (ss := [([0], .i), ([1], .i), ([2], .i)]) (fun x _ => by simp [HOk, Fld.f]) r h0 h1)
end Go.Proofs.YtekfdoknfcedpaaGreat
end
section
/- Verdict: marks. Written by mkm.py. -/
set_option linter.unusedSimpArgs false
set_option linter.unusedVariables false
set_option maxHeartbeats 1000000
namespace Go.Proofs.YtekfdoknfcedpaaGreat
open Go Go.Ab
section
/- laws.markVerdictS -/
def p_laws_markVerdictS (x0 x1 : AV) : Prog := .loop [x1, .int .i64 0] (fun a=>Ln 0 x0 fun b=>Bn .lss (g a 1) b fun b=>.ite b (Ix 3 x0 (g a 1) fun b=>Sg 0 b (g a 0) fun _=>Bn .add (g a 0) (.int .i64 1) fun b=>Ix 3 x0 (g a 1) fun c=>Sg 1 c b fun _=>Bn .add b (.int .i64 1) fun b=>Bn .rem b (.int .i64 3) fun c=>Bn .eql c (.int .i64 0) fun c=>Ix 3 x0 (g a 1) fun d=>Sg 2 d c fun _=>Bn .add b (.int .i64 1) fun b=>Bn .add (g a 1) (.int .i64 1) fun a=>.leaf 0 [b, a]) (.leaf 2 [g a 0, g a 1])) fun a b=>tsel a 1 (.leaf 1 b) (tsel a 2 (.fin [.val (g b 0)]) .bad)
theorem c_laws_markVerdictS (x0 x1 : AV) : CC Tryz.prog n_laws_markVerdictS [x0, x1] (p_laws_markVerdictS x0 x1) := cc Tryz.func59 [0, 1, 5] (fun _ => [])
/- laws.heldVerdictS -/
def p_laws_heldVerdictS (x0 x1 : AV) : Prog := .loop [x1, .int .i64 0] (fun a=>Ln 0 x0 fun b=>Bn .lss (g a 1) b fun b=>.ite b (Ix 3 x0 (g a 1) fun b=>Lg 0 b fun b=>Bn .neq b (g a 0) fun b=>.ite b (.fin [.val (.int .i64 (-1))]) (Bn .add (g a 0) (.int .i64 1) fun b=>Ix 3 x0 (g a 1) fun c=>Lg 1 c fun c=>Bn .neq c b fun c=>.ite c (.fin [.val (.int .i64 (-1))]) (Bn .add b (.int .i64 1) fun b=>Ix 3 x0 (g a 1) fun c=>Lg 2 c fun c=>Bn .rem b (.int .i64 3) fun d=>Bn .eql d (.int .i64 0) fun d=>.op (.bin 2 .neq c d) fun c=>.ite c (.fin [.val (.int .i64 (-1))]) (Bn .add b (.int .i64 1) fun b=>Bn .add (g a 1) (.int .i64 1) fun a=>.leaf 0 [b, a])))) (.leaf 2 [g a 0, g a 1])) fun a b=>tsel a 1 (.leaf 1 b) (tsel a 2 (.fin [.val (g b 0)]) .bad)
theorem c_laws_heldVerdictS (x0 x1 : AV) : CC Tryz.prog n_laws_heldVerdictS [x0, x1] (p_laws_heldVerdictS x0 x1) := cc Tryz.func67 [0, 1, 5] (fun _ => [])
end
theorem s_laws_markVerdictS : MarkS Verdict Tryz.prog n_laws_markVerdictS := fun xs v F n m h r o h0 h1 => c_laws_markVerdictS _ _ (Prog.awp_mono _ (pMark_spec (w := 3) rfl (ss := [([0], .i), ([1], .i), ([2], .b)]) (fun x _ => by simp [MOk, Fld.f]) r o h0 h1) fun _ _ _ x => x)
theorem s_laws_heldVerdictS : HeldS Verdict Tryz.prog n_laws_heldVerdictS := fun xs v F m h r h0 h1 => reader (c_laws_heldVerdictS _ _) (by simp only [old]) (pHeld_spec (w := 3) rfl (ss := [([0], .i), ([1], .i), ([2], .b)]) (fun x _ => by simp [HOk, Fld.f]) r h0 h1)
end Go.Proofs.YtekfdoknfcedpaaGreat
end
section
/- Marks of rules, set-ups, wheels and worlds. Written by mkmw.py. -/
set_option linter.unusedSimpArgs false
set_option linter.unusedVariables false
set_option maxHeartbeats 8000000
namespace Go.Proofs.YtekfdoknfcedpaaGreat
open Go Go.Ab
section
/- laws.markPolS -/
def p_laws_markPolS (x0 x1 : AV) : Prog := .loop [x1, .int .i64 0] (fun a=>Ln 0 x0 fun b=>Bn .lss (g a 1) b fun b=>.ite b (Ix 5 x0 (g a 1) fun b=>Sg 0 b (g a 0) fun _=>Bn .add (g a 0) (.int .i64 1) fun b=>Ix 5 x0 (g a 1) fun c=>Sg 1 c b fun _=>Bn .add b (.int .i64 1) fun b=>Cl n_laws_markText [b] fun c=>Ix 5 x0 (g a 1) fun d=>Sg 2 d c fun _=>Bn .add b (.int .i64 1) fun b=>Cl n_laws_markText [b] fun c=>Ix 5 x0 (g a 1) fun d=>Sg 3 d c fun _=>Bn .add b (.int .i64 1) fun b=>Ix 5 x0 (g a 1) fun c=>Lg 4 c fun c=>Cl n_laws_markPolS [c, b] fun b=>Bn .add (g a 1) (.int .i64 1) fun a=>.leaf 0 [b, a]) (.leaf 2 [g a 0, g a 1])) fun a b=>tsel a 1 (.leaf 1 b) (tsel a 2 (.fin [.val (g b 0)]) .bad)
theorem c_laws_markPolS (x0 x1 : AV) : CC Tryz.prog n_laws_markPolS [x0, x1] (p_laws_markPolS x0 x1) := cc Tryz.func226 [0, 1, 5] (fun _ => [])
/- laws.heldPolS -/
def p_laws_heldPolS (x0 x1 : AV) : Prog := .loop [x1, .int .i64 0] (fun a=>Ln 0 x0 fun b=>Bn .lss (g a 1) b fun b=>.ite b (Ix 5 x0 (g a 1) fun b=>Lg 0 b fun b=>Bn .neq b (g a 0) fun b=>.ite b (.fin [.val (.int .i64 (-1))]) (Bn .add (g a 0) (.int .i64 1) fun b=>Ix 5 x0 (g a 1) fun c=>Lg 1 c fun c=>Bn .neq c b fun c=>.ite c (.fin [.val (.int .i64 (-1))]) (Bn .add b (.int .i64 1) fun b=>Ix 5 x0 (g a 1) fun c=>.op (.fad 2 c) fun c=>.op (.ld1 c) fun d=>Cl n_laws_markText [b] fun e=>.chk (.ld1 c) d (.op (.bin 1 .neq d e) fun c=>.ite c (.fin [.val (.int .i64 (-1))]) (Bn .add b (.int .i64 1) fun b=>Ix 5 x0 (g a 1) fun c=>.op (.fad 3 c) fun c=>.op (.ld1 c) fun d=>Cl n_laws_markText [b] fun e=>.chk (.ld1 c) d (.op (.bin 1 .neq d e) fun c=>.ite c (.fin [.val (.int .i64 (-1))]) (Bn .add b (.int .i64 1) fun b=>Ix 5 x0 (g a 1) fun c=>Lg 4 c fun c=>Cl n_laws_heldPolS [c, b] fun b=>Bn .lss b (.int .i64 0) fun c=>.ite c (.fin [.val (.int .i64 (-1))]) (Bn .add (g a 1) (.int .i64 1) fun a=>.leaf 0 [b, a])))))))) (.leaf 2 [g a 0, g a 1])) fun a b=>tsel a 1 (.leaf 1 b) (tsel a 2 (.fin [.val (g b 0)]) .bad)
theorem c_laws_heldPolS (x0 x1 : AV) : CC Tryz.prog n_laws_heldPolS [x0, x1] (p_laws_heldPolS x0 x1) := cc Tryz.func228 [0, 1, 5] (fun r => if r = 10 then [(0, []), (1, []), (2, []), (3, []), (4, []), (5, []), (6, [4]), (7, [])] else if r = 13 then [(0, []), (1, []), (2, []), (3, []), (4, []), (5, []), (6, [4]), (7, [])] else [])
/- laws.markPol -/
def p_laws_markPol (x0 x1 : AV) : Prog := .op (.box x0) fun a=>Lg 4 a fun a=>Cl n_laws_markPolS [a, x1] fun a=>.fin [.val a]
theorem c_laws_markPol (x0 x1 : AV) : CC Tryz.prog n_laws_markPol [x0, x1] (p_laws_markPol x0 x1) := cc Tryz.func143
/- laws.heldPol -/
def p_laws_heldPol (x0 x1 : AV) : Prog := .op (.box x0) fun a=>Lg 4 a fun a=>Cl n_laws_heldPolS [a, x1] fun a=>Bn .lss a (.int .i64 0) fun b=>.ite b (.fin [.val (.int .i64 (-1))]) (.fin [.val a])
theorem c_laws_heldPol (x0 x1 : AV) : CC Tryz.prog n_laws_heldPol [x0, x1] (p_laws_heldPol x0 x1) := cc Tryz.func146
/- laws.markConf -/
def p_laws_markConf (x0 x1 : AV) : Prog := .op (.box x0) fun a=>.op (.fad 7 a) fun a=>Ld 5 a fun a=>Cl n_laws_markPol [a, x1] fun a=>.fin [.val a]
theorem c_laws_markConf (x0 x1 : AV) : CC Tryz.prog n_laws_markConf [x0, x1] (p_laws_markConf x0 x1) := cc Tryz.func57
/- laws.heldConf -/
def p_laws_heldConf (x0 x1 : AV) : Prog := .op (.box x0) fun a=>.op (.fad 7 a) fun a=>Ld 5 a fun a=>Cl n_laws_heldPol [a, x1] fun a=>Bn .lss a (.int .i64 0) fun b=>.ite b (.fin [.val (.int .i64 (-1))]) (.fin [.val a])
theorem c_laws_heldConf (x0 x1 : AV) : CC Tryz.prog n_laws_heldConf [x0, x1] (p_laws_heldConf x0 x1) := cc Tryz.func65
/- laws.markTimerSS -/
def p_laws_markTimerSS (x0 x1 : AV) : Prog := .loop [x1, .int .i64 0] (fun a=>Ln 0 x0 fun b=>Bn .lss (g a 1) b fun b=>.ite b (Ix 1 x0 (g a 1) fun b=>.op (.ld1 b) fun b=>Cl n_laws_markTimerS [b, g a 0] fun b=>Bn .add (g a 1) (.int .i64 1) fun a=>.leaf 0 [b, a]) (.leaf 2 [g a 0, g a 1])) fun a b=>tsel a 1 (.leaf 1 b) (tsel a 2 (.fin [.val (g b 0)]) .bad)
theorem c_laws_markTimerSS (x0 x1 : AV) : CC Tryz.prog n_laws_markTimerSS [x0, x1] (p_laws_markTimerSS x0 x1) := cc Tryz.func145 [0, 1, 5] (fun _ => [])
/- laws.heldTimerSS -/
def p_laws_heldTimerSS (x0 x1 : AV) : Prog := .loop [x1, .int .i64 0] (fun a=>Ln 0 x0 fun b=>Bn .lss (g a 1) b fun b=>.ite b (Ix 1 x0 (g a 1) fun b=>.op (.ld1 b) fun b=>Cl n_laws_heldTimerS [b, g a 0] fun b=>Bn .lss b (.int .i64 0) fun c=>.ite c (.fin [.val (.int .i64 (-1))]) (Bn .add (g a 1) (.int .i64 1) fun a=>.leaf 0 [b, a])) (.leaf 2 [g a 0, g a 1])) fun a b=>tsel a 1 (.leaf 1 b) (tsel a 2 (.fin [.val (g b 0)]) .bad)
theorem c_laws_heldTimerSS (x0 x1 : AV) : CC Tryz.prog n_laws_heldTimerSS [x0, x1] (p_laws_heldTimerSS x0 x1) := cc Tryz.func148 [0, 1, 5] (fun _ => [])
/- laws.markWheel -/
def p_laws_markWheel (x0 x1 : AV) : Prog := .op (.box x0) fun a=>Lg 1 a fun b=>Cl n_laws_markTimerSS [b, x1] fun b=>Lg 2 a fun c=>Cl n_laws_markTimerSS [c, b] fun b=>Lg 3 a fun a=>Cl n_laws_markTimerS [a, b] fun a=>.fin [.val a]
theorem c_laws_markWheel (x0 x1 : AV) : CC Tryz.prog n_laws_markWheel [x0, x1] (p_laws_markWheel x0 x1) := cc Tryz.func60
/- laws.heldWheel -/
def p_laws_heldWheel (x0 x1 : AV) : Prog := .op (.box x0) fun a=>Lg 1 a fun b=>Cl n_laws_heldTimerSS [b, x1] fun b=>Bn .lss b (.int .i64 0) fun c=>.ite c (.fin [.val (.int .i64 (-1))]) (Lg 2 a fun c=>Cl n_laws_heldTimerSS [c, b] fun b=>Bn .lss b (.int .i64 0) fun c=>.ite c (.fin [.val (.int .i64 (-1))]) (Lg 3 a fun a=>Cl n_laws_heldTimerS [a, b] fun a=>Bn .lss a (.int .i64 0) fun b=>.ite b (.fin [.val (.int .i64 (-1))]) (.fin [.val a])))
theorem c_laws_heldWheel (x0 x1 : AV) : CC Tryz.prog n_laws_heldWheel [x0, x1] (p_laws_heldWheel x0 x1) := cc Tryz.func68
end
theorem markPols (xs : List Pol) (ih : ∀ x ∈ xs, MarkX Pol Tryz.prog n_laws_markPolS x.l) : MarkX Pol Tryz.prog n_laws_markPolS xs := fun v F n m h r o h0 h1 => c_laws_markPolS _ _ (Prog.awp_mono _ (pMark_spec (w := 5) rfl (ss := [([0], .i), ([1], .i), ([2], .s n_laws_markText), ([3], .s n_laws_markText), ([4], .l n_laws_markPolS)]) (fun x hx => by
  have := ih x hx
  cases x with
  | mk k n s t l => simp only [MOk, Fld.f, s_laws_markText, List.sum_cons, List.sum_nil]; simpa [Pol.l] using this) r o h0 h1) fun _ _ _ x => x)
theorem s_laws_markPolS : MarkS Pol Tryz.prog n_laws_markPolS := fun xs => markPols xs fun x _ => pol_ind (p := fun x => MarkX Pol Tryz.prog n_laws_markPolS x.l) (fun x ih => markPols x.l ih) x
theorem heldPols (xs : List Pol) (ih : ∀ x ∈ xs, HeldX Pol Tryz.prog n_laws_heldPolS x.l) : HeldX Pol Tryz.prog n_laws_heldPolS xs := fun v F m h r h0 h1 => reader (c_laws_heldPolS _ _) (by simp only [old]) (pHeld_spec (w := 5) rfl (ss := [([0], .i), ([1], .i), ([2], .s n_laws_markText), ([3], .s n_laws_markText), ([4], .l n_laws_heldPolS)]) (fun x hx => by
  have := ih x hx
  cases x with
  | mk k n s t l => simp only [HOk, Fld.f, s_laws_markText, List.sum_cons, List.sum_nil]; simpa [Pol.l] using this) r h0 h1)
theorem s_laws_heldPolS : HeldS Pol Tryz.prog n_laws_heldPolS := fun xs => heldPols xs fun x _ => pol_ind (p := fun x => HeldX Pol Tryz.prog n_laws_heldPolS x.l) (fun x ih => heldPols x.l ih) x
theorem s_laws_markPol {x : Pol} {v : AV} {F : List Nat} {n : Nat} {m : Int} {h : AH} (r : SlRep h v x.l F) (o : Own n h F) (h0 : 0 ≤ m) (h1 : (mks m x.l).2 ≤ 1099511627776) : ACalls Tryz.prog n_laws_markPol [.agg (x.cs v), .int .i64 m] h fun r h' => r = .int .i64 (mks m x.l).2 ∧ Kp h h' F ∧ SlRep h' v (mks m x.l).1 F ∧ Own n h' F := by
  refine c_laws_markPol _ _ ?_
  unfold p_laws_markPol
  (repeat' first|refine vs ?_|(refine br ?_ ?_<;>intro _<;>try(exfalso;first|omega|contradiction))|((with_reducible refine g_idx ?_);((first|refine ix ?_|refine ixi ?_|(refine ixg ?_;intro _ _)|(refine ixgi ?_;intro _ _));first|rintro _ _ _ _ _ ⟨rfl,rfl⟩ _|rintro _ _ _ _ _ ⟨_,rfl,_⟩ _|rintro _ _ _ _ _ ⟨_,_,_,_,rfl,rfl,_,_⟩ _|intro _ _ _ _ _ _ _))|(refine sx ?_;intro _ _)|((with_reducible refine g_awp ?_);simp only [g0,g1,g2]))
  refine aw_call (s_laws_markPolS _ _ F n _ _ slr_auto (o.ext ((Ext.refl h).push _) r.lt) h0 h1) ?_
  rintro _ h2 ⟨rfl, k2, q2, o2⟩
  (repeat' first|refine vs ?_|(refine br ?_ ?_<;>intro _<;>try(exfalso;first|omega|contradiction))|((with_reducible refine g_idx ?_);((first|refine ix ?_|refine ixi ?_|(refine ixg ?_;intro _ _)|(refine ixgi ?_;intro _ _));first|rintro _ _ _ _ _ ⟨rfl,rfl⟩ _|rintro _ _ _ _ _ ⟨_,rfl,_⟩ _|rintro _ _ _ _ _ ⟨_,_,_,_,rfl,rfl,_,_⟩ _|intro _ _ _ _ _ _ _))|(refine sx ?_;intro _ _)|((with_reducible refine g_awp ?_);simp only [g0,g1,g2]))
  exact ⟨rfl, _, rfl, rfl, (Kp.of_ext ((Ext.refl h).push _)).trans k2, q2, o2⟩
theorem s_laws_heldPol {x : Pol} {v : AV} {F : List Nat} {m : Int} {h : AH} (r : SlRep h v (mks m x.l).1 F) (h0 : 0 ≤ m) (h1 : (mks m x.l).2 ≤ 1099511627776) : RCalls Tryz.prog n_laws_heldPol [.agg (x.cs v), .int .i64 m] h (.int .i64 (mks m x.l).2) := by
  refine reader (c_laws_heldPol _ _) (by simp only [old]) ?_
  unfold p_laws_heldPol
  have hup := mks_upF x.l m
  (repeat' first|refine vs ?_|(refine br ?_ ?_<;>intro _<;>try(exfalso;first|omega|contradiction))|((with_reducible refine g_callf n_laws_heldPolS ?_);refine aw_rcall (s_laws_heldPolS _ _ _ _ _ slr_auto h0 h1) ?_)|((with_reducible refine g_idx ?_);((first|refine ix ?_|refine ixi ?_|(refine ixg ?_;intro _ _)|(refine ixgi ?_;intro _ _));first|rintro _ _ _ _ _ ⟨rfl,rfl⟩ _|rintro _ _ _ _ _ ⟨_,rfl,_⟩ _|rintro _ _ _ _ _ ⟨_,_,_,_,rfl,rfl,_,_⟩ _|intro _ _ _ _ _ _ _))|(refine sx ?_;intro _ _)|((with_reducible refine g_awp ?_);simp only [g0,g1,g2]))
  all_goals exact pi rfl
theorem s_laws_markConf {x : Conf} {v : AV} {F : List Nat} {n : Nat} {m : Int} {h : AH} (r : SlRep h v x.rule.l F) (o : Own n h F) (h0 : 0 ≤ m) (h1 : (mks m x.rule.l).2 ≤ 1099511627776) : ACalls Tryz.prog n_laws_markConf [.agg (x.cs v), .int .i64 m] h fun r h' => r = .int .i64 (mks m x.rule.l).2 ∧ Kp h h' F ∧ SlRep h' v (mks m x.rule.l).1 F ∧ Own n h' F := by
  refine c_laws_markConf _ _ ?_
  unfold p_laws_markConf
  (repeat' first|refine vs ?_|(refine br ?_ ?_<;>intro _<;>try(exfalso;first|omega|contradiction))|((with_reducible refine g_idx ?_);((first|refine ix ?_|refine ixi ?_|(refine ixg ?_;intro _ _)|(refine ixgi ?_;intro _ _));first|rintro _ _ _ _ _ ⟨rfl,rfl⟩ _|rintro _ _ _ _ _ ⟨_,rfl,_⟩ _|rintro _ _ _ _ _ ⟨_,_,_,_,rfl,rfl,_,_⟩ _|intro _ _ _ _ _ _ _))|(refine sx ?_;intro _ _)|((with_reducible refine g_awp ?_);simp only [g0,g1,g2]))
  refine aw_call (s_laws_markPol (x := x.rule) (F := F) (n := n) slr_auto (o.ext ((Ext.refl h).push _) r.lt) h0 h1) ?_
  rintro _ h2 ⟨rfl, k2, q2, o2⟩
  (repeat' first|refine vs ?_|(refine br ?_ ?_<;>intro _<;>try(exfalso;first|omega|contradiction))|((with_reducible refine g_idx ?_);((first|refine ix ?_|refine ixi ?_|(refine ixg ?_;intro _ _)|(refine ixgi ?_;intro _ _));first|rintro _ _ _ _ _ ⟨rfl,rfl⟩ _|rintro _ _ _ _ _ ⟨_,rfl,_⟩ _|rintro _ _ _ _ _ ⟨_,_,_,_,rfl,rfl,_,_⟩ _|intro _ _ _ _ _ _ _))|(refine sx ?_;intro _ _)|((with_reducible refine g_awp ?_);simp only [g0,g1,g2]))
  exact ⟨rfl, _, rfl, rfl, (Kp.of_ext ((Ext.refl h).push _)).trans k2, q2, o2⟩
theorem s_laws_heldConf {x : Conf} {v : AV} {F : List Nat} {m : Int} {h : AH} (r : SlRep h v (mks m x.rule.l).1 F) (h0 : 0 ≤ m) (h1 : (mks m x.rule.l).2 ≤ 1099511627776) : RCalls Tryz.prog n_laws_heldConf [.agg (x.cs v), .int .i64 m] h (.int .i64 (mks m x.rule.l).2) := by
  refine reader (c_laws_heldConf _ _) (by simp only [old]) ?_
  unfold p_laws_heldConf
  have hup := mks_upF x.rule.l m
  (repeat' first|refine vs ?_|(refine br ?_ ?_<;>intro _<;>try(exfalso;first|omega|contradiction))|((with_reducible refine g_callf n_laws_heldPol ?_);refine aw_rcall (s_laws_heldPol (x := x.rule) slr_auto h0 h1) ?_)|((with_reducible refine g_idx ?_);((first|refine ix ?_|refine ixi ?_|(refine ixg ?_;intro _ _)|(refine ixgi ?_;intro _ _));first|rintro _ _ _ _ _ ⟨rfl,rfl⟩ _|rintro _ _ _ _ _ ⟨_,rfl,_⟩ _|rintro _ _ _ _ _ ⟨_,_,_,_,rfl,rfl,_,_⟩ _|intro _ _ _ _ _ _ _))|(refine sx ?_;intro _ _)|((with_reducible refine g_awp ?_);simp only [g0,g1,g2]))
  all_goals exact pi rfl
theorem s_laws_markTimerSS : MarkS (List Ab.Timer) Tryz.prog n_laws_markTimerSS := fun xs v F n m h r o h0 h1 => c_laws_markTimerSS _ _ (Prog.awp_mono _ (pMark_spec (w := 1) rfl (ss := [([], .l n_laws_markTimerS)]) (fun x _ => by simp [MOk, Fld.f, s_laws_markTimerS.x]) r o h0 h1) fun _ _ _ x => x)
theorem s_laws_heldTimerSS : HeldS (List Ab.Timer) Tryz.prog n_laws_heldTimerSS := fun xs v F m h r h0 h1 => reader (c_laws_heldTimerSS _ _) (by simp only [old]) (pHeld_spec (w := 1) rfl (ss := [([], .l n_laws_heldTimerS)]) (fun x _ => by simp [HOk, Fld.f, s_laws_heldTimerS.x]) r h0 h1)

theorem own_step {n n' : Nat} {h h' : AH} {F G : List Nat} (o : Own n h F) (lt : ∀ b ∈ F, b < h.n) (k : Kp h h' G) (g : Own n' h' G) : Own n h' F := ⟨o.1, fun b hb => ⟨(o.2 b hb).1, by
  by_cases hg : b ∈ G
  · exact (g.2 b hg).2
  · rw [k.2 b (lt b hb) hg]; exact (o.2 b hb).2⟩⟩
def mkWheel (m : Int) (x : Wheel) : Wheel × Int := (⟨x.now, (mks m x.near).1, (mks (mks m x.near).2 x.far).1, (mks (mks (mks m x.near).2 x.far).2 x.rest).1⟩, (mks (mks (mks m x.near).2 x.far).2 x.rest).2)
theorem mkWheel_up (m : Int) (x : Wheel) : m ≤ (mkWheel m x).2 := by
  have := mks_upF x.near m
  have := mks_upF x.far (mks m x.near).2
  have := mks_upF x.rest (mks (mks m x.near).2 x.far).2
  show m ≤ (mks (mks (mks m x.near).2 x.far).2 x.rest).2
  omega
theorem s_laws_markWheel {x : Wheel} {v0 v1 v2 : AV} {F0 F1 F2 : List Nat} {n : Nat} {m : Int} {h : AH} (r0 : SlRep h v0 x.near F0) (r1 : SlRep h v1 x.far F1) (r2 : SlRep h v2 x.rest F2) (o : Own n h (F0 ++ (F1 ++ F2))) (h0 : 0 ≤ m) (h1 : (mkWheel m x).2 ≤ 1099511627776) :
    ACalls Tryz.prog n_laws_markWheel [.agg (x.cs v0 v1 v2), .int .i64 m] h fun r h' => r = .int .i64 (mkWheel m x).2 ∧ Kp h h' (F0 ++ (F1 ++ F2)) ∧ SlRep h' v0 (mkWheel m x).1.near F0 ∧ SlRep h' v1 (mkWheel m x).1.far F1 ∧ SlRep h' v2 (mkWheel m x).1.rest F2 ∧ Own n h' (F0 ++ (F1 ++ F2)) := by
  have o0 := own_l o
  have o1 := own_l (own_r o)
  have o2 := own_r (own_r o)
  have d01 := dis_l (own_d o)
  have d02 := dis_r (own_d o)
  have d12 := own_d (own_r o)
  have d10 : ∀ c ∈ F1, c ∉ F0 := fun c a b => d01 c b a
  have d20 : ∀ c ∈ F2, c ∉ F0 := fun c a b => d02 c b a
  have d21 : ∀ c ∈ F2, c ∉ F1 := fun c a b => d12 c b a
  have u0 := mks_upF x.near m
  have u1 := mks_upF x.far (mks m x.near).2
  have u2 := mks_upF x.rest (mks (mks m x.near).2 x.far).2
  have hm : (mks (mks (mks m x.near).2 x.far).2 x.rest).2 ≤ 1099511627776 := h1
  refine c_laws_markWheel _ _ ?_
  unfold p_laws_markWheel
  refine aw_box rfl ?_
  obtain ⟨H, hH⟩ : ∃ H, H = h.push ⟨x.cs v0 v1 v2, 0, 0⟩ := ⟨_, rfl⟩
  rw [← hH]
  have e : Ext h H := by rw [hH]; exact (Ext.refl h).push _
  have b : Bk H h.n (x.cs v0 v1 v2) 0 := by rw [hH]; exact bk_push
  have K : Kp h H (F0 ++ (F1 ++ F2)) := Kp.of_ext e
  have lt : ∀ c ∈ F0 ++ (F1 ++ F2), c < h.n := fun c hc => by
    simp only [List.mem_append] at hc
    rcases hc with g | g | g
    · exact r0.lt c g
    · exact r1.lt c g
    · exact r2.lt c g
  have nb0 : h.n ∉ F0 := fun g => Nat.lt_irrefl _ (lt _ (by simp [g]))
  have nb1 : h.n ∉ F1 := fun g => Nat.lt_irrefl _ (lt _ (by simp [g]))
  have OO := o.ext e lt
  replace o0 := o0.ext e r0.lt
  replace o1 := o1.ext e r1.lt
  replace o2 := o2.ext e r2.lt
  have LT : ∀ c ∈ F0 ++ (F1 ++ F2), c < H.n := fun c hc => Nat.lt_of_lt_of_le (lt c hc) e.1
  replace r0 := r0.ext e
  replace r1 := r1.ext e
  replace r2 := r2.ext e
  clear e hH
  (repeat' first|refine vs ?_|(refine br ?_ ?_<;>intro _<;>try(exfalso;first|omega|contradiction))|((with_reducible refine g_idx ?_);((first|refine ix ?_|refine ixi ?_|(refine ixg ?_;intro _ _)|(refine ixgi ?_;intro _ _));first|rintro _ _ _ _ _ ⟨rfl,rfl⟩ _|rintro _ _ _ _ _ ⟨_,rfl,_⟩ _|rintro _ _ _ _ _ ⟨_,_,_,_,rfl,rfl,_,_⟩ _|intro _ _ _ _ _ _ _))|(refine sx ?_;intro _ _)|((with_reducible refine g_awp ?_);simp only [g0,g1,g2]))
  refine aw_call (s_laws_markTimerSS _ _ F0 n _ _ r0 o0 h0 (by omega)) ?_
  rintro _ h2 ⟨rfl, k1, q0, p0⟩
  replace OO := own_step OO LT k1 p0
  replace LT : ∀ c ∈ F0 ++ (F1 ++ F2), c < h2.n := fun c hc => Nat.lt_of_lt_of_le (LT c hc) k1.1
  replace o1 := (ol_kp1 k1 ⟨o1, r1.lt⟩ d10).1
  replace o2 := (ol_kp1 k1 ⟨o2, r2.lt⟩ d20).1
  replace r1 := slr_kp1 k1 r1 d10
  replace r2 := slr_kp1 k1 r2 d20
  replace b := bk_kp1 k1 b nb0
  replace K := K.trans (k1.mono fun c hc => by simp [hc])
  clear k1
  (repeat' first|refine vs ?_|(refine br ?_ ?_<;>intro _<;>try(exfalso;first|omega|contradiction))|((with_reducible refine g_idx ?_);((first|refine ix ?_|refine ixi ?_|(refine ixg ?_;intro _ _)|(refine ixgi ?_;intro _ _));first|rintro _ _ _ _ _ ⟨rfl,rfl⟩ _|rintro _ _ _ _ _ ⟨_,rfl,_⟩ _|rintro _ _ _ _ _ ⟨_,_,_,_,rfl,rfl,_,_⟩ _|intro _ _ _ _ _ _ _))|(refine sx ?_;intro _ _)|((with_reducible refine g_awp ?_);simp only [g0,g1,g2]))
  refine aw_call (s_laws_markTimerSS _ _ F1 n _ _ r1 o1 (by omega) (by omega)) ?_
  rintro _ h3 ⟨rfl, k1, q1, p1⟩
  replace OO := own_step OO LT k1 p1
  replace LT : ∀ c ∈ F0 ++ (F1 ++ F2), c < h3.n := fun c hc => Nat.lt_of_lt_of_le (LT c hc) k1.1
  replace o2 := (ol_kp1 k1 ⟨o2, r2.lt⟩ d21).1
  replace q0 := slr_kp1 k1 q0 d01
  replace r2 := slr_kp1 k1 r2 d21
  replace b := bk_kp1 k1 b nb1
  replace K := K.trans (k1.mono fun c hc => by simp [hc])
  clear k1
  (repeat' first|refine vs ?_|(refine br ?_ ?_<;>intro _<;>try(exfalso;first|omega|contradiction))|((with_reducible refine g_idx ?_);((first|refine ix ?_|refine ixi ?_|(refine ixg ?_;intro _ _)|(refine ixgi ?_;intro _ _));first|rintro _ _ _ _ _ ⟨rfl,rfl⟩ _|rintro _ _ _ _ _ ⟨_,rfl,_⟩ _|rintro _ _ _ _ _ ⟨_,_,_,_,rfl,rfl,_,_⟩ _|intro _ _ _ _ _ _ _))|(refine sx ?_;intro _ _)|((with_reducible refine g_awp ?_);simp only [g0,g1,g2]))
  refine aw_call (s_laws_markTimerS _ _ F2 n _ _ r2 o2 (by omega) (by omega)) ?_
  rintro _ h4 ⟨rfl, k1, q2, p2⟩
  replace OO := own_step OO LT k1 p2
  replace q0 := slr_kp1 k1 q0 d02
  replace q1 := slr_kp1 k1 q1 d12
  replace K := K.trans (k1.mono fun c hc => by simp [hc])
  clear k1
  (repeat' first|refine vs ?_|(refine br ?_ ?_<;>intro _<;>try(exfalso;first|omega|contradiction))|((with_reducible refine g_idx ?_);((first|refine ix ?_|refine ixi ?_|(refine ixg ?_;intro _ _)|(refine ixgi ?_;intro _ _));first|rintro _ _ _ _ _ ⟨rfl,rfl⟩ _|rintro _ _ _ _ _ ⟨_,rfl,_⟩ _|rintro _ _ _ _ _ ⟨_,_,_,_,rfl,rfl,_,_⟩ _|intro _ _ _ _ _ _ _))|(refine sx ?_;intro _ _)|((with_reducible refine g_awp ?_);simp only [g0,g1,g2]))
  exact ⟨rfl, _, rfl, rfl, K, q0, q1, q2, OO⟩
theorem s_laws_heldWheel {x : Wheel} {v0 v1 v2 : AV} {F0 F1 F2 : List Nat} {m : Int} {h : AH} (r0 : SlRep h v0 (mkWheel m x).1.near F0) (r1 : SlRep h v1 (mkWheel m x).1.far F1) (r2 : SlRep h v2 (mkWheel m x).1.rest F2) (h0 : 0 ≤ m) (h1 : (mkWheel m x).2 ≤ 1099511627776) :
    RCalls Tryz.prog n_laws_heldWheel [.agg (x.cs v0 v1 v2), .int .i64 m] h (.int .i64 (mkWheel m x).2) := by
  have u0 := mks_upF x.near m
  have u1 := mks_upF x.far (mks m x.near).2
  have u2 := mks_upF x.rest (mks (mks m x.near).2 x.far).2
  have hm : (mks (mks (mks m x.near).2 x.far).2 x.rest).2 ≤ 1099511627776 := h1
  refine reader (c_laws_heldWheel _ _) (by simp only [old]) ?_
  unfold p_laws_heldWheel
  (repeat' first|refine vs ?_|(refine br ?_ ?_<;>intro _<;>try(exfalso;first|omega|contradiction))|((with_reducible refine g_idx ?_);((first|refine ix ?_|refine ixi ?_|(refine ixg ?_;intro _ _)|(refine ixgi ?_;intro _ _));first|rintro _ _ _ _ _ ⟨rfl,rfl⟩ _|rintro _ _ _ _ _ ⟨_,rfl,_⟩ _|rintro _ _ _ _ _ ⟨_,_,_,_,rfl,rfl,_,_⟩ _|intro _ _ _ _ _ _ _))|(refine sx ?_;intro _ _)|((with_reducible refine g_awp ?_);simp only [g0,g1,g2]))
  refine aw_rcall (s_laws_heldTimerSS x.near v0 F0 m _ (r0.ext ((Ext.refl h).push _)) h0 (by omega)) ?_
  (repeat' first|refine vs ?_|(refine br ?_ ?_<;>intro _<;>try(exfalso;first|omega|contradiction))|((with_reducible refine g_idx ?_);((first|refine ix ?_|refine ixi ?_|(refine ixg ?_;intro _ _)|(refine ixgi ?_;intro _ _));first|rintro _ _ _ _ _ ⟨rfl,rfl⟩ _|rintro _ _ _ _ _ ⟨_,rfl,_⟩ _|rintro _ _ _ _ _ ⟨_,_,_,_,rfl,rfl,_,_⟩ _|intro _ _ _ _ _ _ _))|(refine sx ?_;intro _ _)|((with_reducible refine g_awp ?_);simp only [g0,g1,g2]))
  refine aw_rcall (s_laws_heldTimerSS x.far v1 F1 _ _ (r1.ext ((Ext.refl h).push _)) (by omega) (by omega)) ?_
  (repeat' first|refine vs ?_|(refine br ?_ ?_<;>intro _<;>try(exfalso;first|omega|contradiction))|((with_reducible refine g_idx ?_);((first|refine ix ?_|refine ixi ?_|(refine ixg ?_;intro _ _)|(refine ixgi ?_;intro _ _));first|rintro _ _ _ _ _ ⟨rfl,rfl⟩ _|rintro _ _ _ _ _ ⟨_,rfl,_⟩ _|rintro _ _ _ _ _ ⟨_,_,_,_,rfl,rfl,_,_⟩ _|intro _ _ _ _ _ _ _))|(refine sx ?_;intro _ _)|((with_reducible refine g_awp ?_);simp only [g0,g1,g2]))
  refine aw_rcall (s_laws_heldTimerS x.rest v2 F2 _ _ (r2.ext ((Ext.refl h).push _)) (by omega) (by omega)) ?_
  (repeat' first|refine vs ?_|(refine br ?_ ?_<;>intro _<;>try(exfalso;first|omega|contradiction))|((with_reducible refine g_idx ?_);((first|refine ix ?_|refine ixi ?_|(refine ixg ?_;intro _ _)|(refine ixgi ?_;intro _ _));first|rintro _ _ _ _ _ ⟨rfl,rfl⟩ _|rintro _ _ _ _ _ ⟨_,rfl,_⟩ _|rintro _ _ _ _ _ ⟨_,_,_,_,rfl,rfl,_,_⟩ _|intro _ _ _ _ _ _ _))|(refine sx ?_;intro _ _)|((with_reducible refine g_awp ?_);simp only [g0,g1,g2]))
  exact pi rfl
end Go.Proofs.YtekfdoknfcedpaaGreat
end
