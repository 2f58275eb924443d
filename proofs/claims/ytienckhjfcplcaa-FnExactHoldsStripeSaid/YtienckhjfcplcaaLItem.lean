
/- Itm: copies, comparisons, sizes. Written by mkl.py. -/
import Derived.Test.YtienckhjfcplcaaLSpan
set_option linter.unusedSimpArgs false
set_option linter.unusedVariables false
set_option maxHeartbeats 1000000
namespace Go.Proofs.Ytienckhjfcplcaa
open Go Go.Ab
section
/- laws.toItem -/
def p_laws_toItem (x0 : AV) : Prog := .op (.box x0) fun v => .op (.alloc [AV.int .i64 0, AV.int .i64 0, AV.int .i64 0, AV.int .i64 0, AV.int .i64 0, AV.bool false, AV.nils]) fun v_1 => .op (.alloc [AV.int .i64 0, AV.int .i64 0, AV.int .i64 0, AV.int .i64 0, AV.int .i64 0, AV.bool false, AV.nils]) fun v_2 => .op (.fad 0 v) fun v_3 => .op (.ld1 v_3) fun v_4 => .op (.fad 0 v_2) fun v_5 => .op (.st 1 v_5 v_4) fun v_6 => .op (.fad 1 v) fun v => .op (.ldn 6 v) fun v => .op (.call n_laws_toSpan [v]) fun v => .op (.fad 1 v_2) fun v_7 => .op (.st 6 v_7 v) fun v => .op (.ldn 7 v_2) fun v => .op (.st 7 v_1 v) fun v => .fin [.cn 7 v_1]
theorem c_laws_toItem (x0 : AV) {h : AH} {R : AV → AH → Prop} (g : (p_laws_toItem x0).awp Try.prog h fun t vs h' => t = 1 ∧ ∃ v, vs = [v] ∧ R v h') : ACalls Try.prog n_laws_toItem [x0] h R :=
  acalls_of follows Try.func86 (by kernel_rfl) (by kernel_rfl) [] (fun _ => []) (show trF Try.prog Try.f86 _ _ [x0] = p_laws_toItem x0 by kernel_rfl) g
/- laws.eqItem -/
def p_laws_eqItem (x0 x1 : AV) : Prog := .op (.box x0) fun v => .op (.box x1) fun v_1 => .op (.fad 0 v) fun v_2 => .op (.ld1 v_2) fun v_3 => .op (.fad 0 v_1) fun v_4 => .op (.ld1 v_4) fun v_5 => .op (.bin 0 .neq v_3 v_5) fun v_6 => .ite v_6 (.fin [.val (AV.bool false)]) (.op (.fad 1 v) fun v => .op (.ldn 6 v) fun v => .op (.fad 1 v_1) fun v_7 => .op (.ldn 6 v_7) fun v_8 => .op (.call n_laws_eqSpan [v, v_8]) fun v => .op (.una .not v) fun v => .ite v (.fin [.val (AV.bool false)]) (.fin [.val (AV.bool true)]))
theorem c_laws_eqItem (x0 x1 : AV) {h : AH} {R : AV → AH → Prop} (g : (p_laws_eqItem x0 x1).awp Try.prog h fun t vs h' => t = 1 ∧ ∃ v, vs = [v] ∧ R v h') : ACalls Try.prog n_laws_eqItem [x0, x1] h R :=
  acalls_of follows Try.func88 (by kernel_rfl) (by kernel_rfl) [] (fun _ => []) (show trF Try.prog Try.f88 _ _ [x0, x1] = p_laws_eqItem x0 x1 by kernel_rfl) g
/- laws.szItem -/
def p_laws_szItem (x0 x1 : AV) : Prog := .op (.box x0) fun v => .op (.fad 1 v) fun v => .op (.ldn 6 v) fun v => .op (.call n_laws_szSpan [v, x1]) fun v => .op (.bin 0 .lss v (AV.int .i64 0)) fun v_1 => .ite v_1 (.fin [.val (AV.int .i64 (-1))]) (.fin [.val v])
theorem c_laws_szItem (x0 x1 : AV) {h : AH} {R : AV → AH → Prop} (g : (p_laws_szItem x0 x1).awp Try.prog h fun t vs h' => t = 1 ∧ ∃ v, vs = [v] ∧ R v h') : ACalls Try.prog n_laws_szItem [x0, x1] h R :=
  acalls_of follows Try.func84 (by kernel_rfl) (by kernel_rfl) [] (fun _ => []) (show trF Try.prog Try.f84 _ _ [x0, x1] = p_laws_szItem x0 x1 by kernel_rfl) g
/- laws.toItemS -/
def p_laws_toItemS (x0 : AV) : Prog := .op (.len 0 x0) fun v => .op (.mksl 7 72 [AV.int .i64 0, AV.int .i64 0, AV.int .i64 0, AV.int .i64 0, AV.int .i64 0, AV.bool false, AV.nils] v v) fun v => .loop [AV.int .i64 0] (fun vs => .op (.len 0 x0) fun v_1 => .op (.bin 0 .lss (g vs 0) v_1) fun v_2 => .ite v_2 (.op (.idx 7 x0 (g vs 0)) fun v_3 => .op (.ldn 7 v_3) fun v_4 => .op (.call n_laws_toItem [v_4]) fun v_5 => .op (.idx 7 v (g vs 0)) fun v => .op (.st 7 v v_5) fun v => .op (.bin 0 .add (g vs 0) (AV.int .i64 1)) fun v => .leaf 0 [v]) (.leaf 2 [g vs 0])) fun t vs => tsel t 1 (.leaf 1 vs) (tsel t 2 (.fin [.val v]) .bad)
theorem c_laws_toItemS (x0 : AV) {h : AH} {R : AV → AH → Prop} (g : (p_laws_toItemS x0).awp Try.prog h fun t vs h' => t = 1 ∧ ∃ v, vs = [v] ∧ R v h') : ACalls Try.prog n_laws_toItemS [x0] h R :=
  acalls_of follows Try.func32 (by kernel_rfl) (by kernel_rfl) [0, 3, 4] (fun _ => []) (show trF Try.prog Try.f32 _ _ [x0] = p_laws_toItemS x0 by kernel_rfl) g
/- laws.eqItemS -/
def p_laws_eqItemS (x0 x1 : AV) : Prog := .op (.len 0 x0) fun v => .op (.len 0 x1) fun v_1 => .op (.bin 0 .neq v v_1) fun v => .ite v (.fin [.val (AV.bool false)]) (.loop [AV.int .i64 0] (fun vs => .op (.len 0 x0) fun v => .op (.bin 0 .lss (g vs 0) v) fun v => .ite v (.op (.idx 7 x0 (g vs 0)) fun v => .op (.ldn 7 v) fun v => .op (.idx 7 x1 (g vs 0)) fun v_2 => .op (.ldn 7 v_2) fun v_3 => .op (.call n_laws_eqItem [v, v_3]) fun v => .op (.una .not v) fun v => .ite v (.fin [.val (AV.bool false)]) (.op (.bin 0 .add (g vs 0) (AV.int .i64 1)) fun v => .leaf 0 [v])) (.leaf 2 [g vs 0])) fun t vs => tsel t 1 (.leaf 1 vs) (tsel t 2 (.fin [.val (AV.bool true)]) .bad))
theorem c_laws_eqItemS (x0 x1 : AV) {h : AH} {R : AV → AH → Prop} (g : (p_laws_eqItemS x0 x1).awp Try.prog h fun t vs h' => t = 1 ∧ ∃ v, vs = [v] ∧ R v h') : ACalls Try.prog n_laws_eqItemS [x0, x1] h R :=
  acalls_of follows Try.func35 (by kernel_rfl) (by kernel_rfl) [0, 1, 5] (fun r => if r = 6 then [(0, []), (1, []), (2, []), (3, []), (4, []), (5, []), (6, []), (7, []), (8, []), (9, [])] else []) (show trF Try.prog Try.f35 _ _ [x0, x1] = p_laws_eqItemS x0 x1 by kernel_rfl) g
/- laws.szItemS -/
def p_laws_szItemS (x0 x1 : AV) : Prog := .op (.len 0 x0) fun v => .op (.bin 0 .sub x1 v) fun v => .op (.bin 0 .lss v (AV.int .i64 0)) fun v_1 => .ite v_1 (.fin [.val (AV.int .i64 (-1))]) (.loop [v, AV.int .i64 0] (fun vs => .op (.len 0 x0) fun v => .op (.bin 0 .lss (g vs 1) v) fun v => .ite v (.op (.idx 7 x0 (g vs 1)) fun v => .op (.ldn 7 v) fun v => .op (.call n_laws_szItem [v, g vs 0]) fun v => .op (.bin 0 .lss v (AV.int .i64 0)) fun v_2 => .ite v_2 (.fin [.val (AV.int .i64 (-1))]) (.op (.bin 0 .add (g vs 1) (AV.int .i64 1)) fun v_3 => .leaf 0 [v, v_3])) (.leaf 2 [g vs 0, g vs 1])) fun t vs => tsel t 1 (.leaf 1 vs) (tsel t 2 (.fin [.val (g vs 0)]) .bad))
theorem c_laws_szItemS (x0 x1 : AV) {h : AH} {R : AV → AH → Prop} (g : (p_laws_szItemS x0 x1).awp Try.prog h fun t vs h' => t = 1 ∧ ∃ v, vs = [v] ∧ R v h') : ACalls Try.prog n_laws_szItemS [x0, x1] h R :=
  acalls_of follows Try.func30 (by kernel_rfl) (by kernel_rfl) [0, 1, 5] (fun _ => []) (show trF Try.prog Try.f30 _ _ [x0, x1] = p_laws_szItemS x0 x1 by kernel_rfl) g
end
theorem s_laws_toItem (x : Itm) (hs : Sz.sz x ≤ 1048576) : CopyX Itm Try.prog n_laws_toItem x := by
  rintro cs F h ⟨v0, rfl, r0⟩
  have hs : Sz.sz x.s ≤ 1048576 := hs
  have e_s : Sz.sz x.s = (x.s.attrs.length + szs x.s.attrs) := rfl
  refine c_laws_toItem _ ?_
  unfold p_laws_toItem
  (repeat' first|refine vs ?_|(refine br ?_ ?_<;>intro _<;>try(exfalso;first|omega|contradiction))|((with_reducible refine g_callf n_laws_toSpan ?_);(refine aw_call (s_laws_toSpan _ om_auto _ _ _ ⟨_, rfl, slr_auto⟩) ?_; rintro _ _ ⟨e_, _, _, rfl, ⟨_, rfl, _⟩, _⟩; have n_ := e_.1; (try simp only [push_n, upd_n] at n_)))|((with_reducible refine g_idx ?_);((first|refine ix ?_|refine ixi ?_|(refine ixg ?_;intro _ _)|(refine ixgi ?_;intro _ _));first|rintro _ _ _ _ _ ⟨rfl,rfl⟩ _|rintro _ _ _ _ _ ⟨_,rfl,_⟩ _|rintro _ _ _ _ _ ⟨_,_,_,_,rfl,rfl,_,_⟩ _|intro _ _ _ _ _ _ _))|(refine sx ?_;intro _ _)|((with_reducible refine g_awp ?_);simp only [g0,g1,g2]))
  exact ⟨rfl, _, rfl, ext_auto, _, _, rfl, ⟨_, rfl, slr_auto⟩, ol_auto⟩
theorem s_laws_eqItem : EqC Itm Try.prog n_laws_eqItem := by
  rintro x cs cs' F F' h ⟨v0, rfl, r0⟩ ⟨u0, rfl, q0⟩
  refine reader (c_laws_eqItem _ _) (by simp only [old]) ?_
  unfold p_laws_eqItem
  (repeat' first|refine vs ?_|(refine br ?_ ?_<;>intro _<;>try(exfalso;first|omega|contradiction))|((with_reducible refine g_callf n_laws_eqSpan ?_);refine aw_rcall (s_laws_eqSpan _ _ _ _ _ _ ⟨_, rfl, slr_auto⟩ ⟨_, rfl, slr_auto⟩) ?_)|((with_reducible refine g_idx ?_);((first|refine ix ?_|refine ixi ?_|(refine ixg ?_;intro _ _)|(refine ixgi ?_;intro _ _));first|rintro _ _ _ _ _ ⟨rfl,rfl⟩ _|rintro _ _ _ _ _ ⟨_,rfl,_⟩ _|rintro _ _ _ _ _ ⟨_,_,_,_,rfl,rfl,_,_⟩ _|intro _ _ _ _ _ _ _))|(refine sx ?_;intro _ _)|((with_reducible refine g_awp ?_);simp only [g0,g1,g2]))
  exact pb rfl
theorem s_laws_szItem : SzC Itm Try.prog n_laws_szItem := by
  rintro x ok cs F b h ⟨v0, rfl, r0⟩ h0 h1
  obtain ⟨ok_stamp, ok_s⟩ := ok
  have hS : Sz.sz x = Sz.sz x.s := rfl
  have e_s : Sz.sz x.s = (x.s.attrs.length + szs x.s.attrs) := rfl
  refine reader (c_laws_szItem _ _) (by simp only [old]) ?_
  unfold p_laws_szItem
  (repeat' first|refine vs ?_|(refine br ?_ ?_<;>intro _<;>try(exfalso;first|omega|contradiction))|((with_reducible refine g_callf n_laws_szSpan ?_);(refine aw_sz (s_laws_szSpan _ (by assumption) _ _ _ _ ⟨_, rfl, slr_auto⟩ om_auto om_auto) (fun _ => ?_) (fun _ => ?_)))|((with_reducible refine g_idx ?_);((first|refine ix ?_|refine ixi ?_|(refine ixg ?_;intro _ _)|(refine ixgi ?_;intro _ _));first|rintro _ _ _ _ _ ⟨rfl,rfl⟩ _|rintro _ _ _ _ _ ⟨_,rfl,_⟩ _|rintro _ _ _ _ _ ⟨_,_,_,_,rfl,rfl,_,_⟩ _|intro _ _ _ _ _ _ _))|(refine sx ?_;intro _ _)|((with_reducible refine g_awp ?_);simp only [g0,g1,g2]))
  all_goals (refine pi ?_; unfold szr; split <;> omega)
theorem s_laws_toItemS (xs : List Itm) (hs : xs.length + szs xs ≤ 1048576) : CopyL Try.prog n_laws_toItemS xs := copyL_of rfl rfl (by decide) hs (fun x hx => s_laws_toItem x hx) (fun g => c_laws_toItemS _ g)
theorem s_laws_eqItemS : EqS Itm Try.prog n_laws_eqItemS := fun xs v v' F F' h r r' => reader (c_laws_eqItemS _ _) (by simp only [old]) (eqS_spec rfl s_laws_eqItem r r')
theorem s_laws_szItemS : SzL Itm Try.prog n_laws_szItemS := fun xs ok v F b h r h0 h1 => reader (c_laws_szItemS _ _) (by simp only [old]) (szS_spec rfl s_laws_szItem ok r h0 h1)
end Go.Proofs.Ytienckhjfcplcaa
