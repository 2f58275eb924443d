
/- Marks of rules, set-ups, wheels and worlds. Written by mkmw.py. -/
import Derived.Test.YtideefohbkhhhaaMStripe
import Derived.Test.YtideefohbkhhhaaMVerdict
import Derived.Test.YtideefohbkhhhaaMTimer
import Derived.Test.YtideefohbkhhhaaMItem
import Derived.Test.YtideefohbkhhhaaMTask
import Derived.Test.YtideefohbkhhhaaMDeed
import Derived.Test.YtideefohbkhhhaaLPol
import Derived.Test.YtideefohbkhhhaaAb46
set_option linter.unusedSimpArgs false
set_option linter.unusedVariables false
set_option maxHeartbeats 8000000
namespace Go.Proofs.Ytideefohbkhhhaa
open Go Go.Ab
section
/- laws.markPolS -/
def p_laws_markPolS (x0 x1 : AV) : Prog := .loop [x1, AV.int .i64 0] (fun vs1 => .op (.len 0 x0) fun v3 => .op (.bin 0 .lss (g vs1 1) v3) fun v4 => .ite v4 (.op (.idx 5 x0 (g vs1 1)) fun v5 => .op (.fad 0 v5) fun v6 => .op (.st 1 v6 (g vs1 0)) fun v7 => .op (.bin 0 .add (g vs1 0) (AV.int .i64 1)) fun v8 => .op (.idx 5 x0 (g vs1 1)) fun v9 => .op (.fad 1 v9) fun v10 => .op (.st 1 v10 v8) fun v11 => .op (.bin 0 .add v8 (AV.int .i64 1)) fun v12 => .op (.call n_laws_markText [v12]) fun v13 => .op (.idx 5 x0 (g vs1 1)) fun v14 => .op (.fad 2 v14) fun v15 => .op (.st 1 v15 v13) fun v16 => .op (.bin 0 .add v12 (AV.int .i64 1)) fun v17 => .op (.call n_laws_markText [v17]) fun v18 => .op (.idx 5 x0 (g vs1 1)) fun v19 => .op (.fad 3 v19) fun v20 => .op (.st 1 v20 v18) fun v21 => .op (.bin 0 .add v17 (AV.int .i64 1)) fun v22 => .op (.idx 5 x0 (g vs1 1)) fun v23 => .op (.fad 4 v23) fun v24 => .op (.ld1 v24) fun v25 => .op (.call n_laws_markPolS [v25, v22]) fun v26 => .op (.bin 0 .add (g vs1 1) (AV.int .i64 1)) fun v27 => .leaf 0 [v26, v27]) (.leaf 2 [g vs1 0, g vs1 1])) fun t2 vs1 => tsel t2 1 (.leaf 1 vs1) (tsel t2 2 (.fin [.val (g vs1 0)]) .bad)
theorem c_laws_markPolS (x0 x1 : AV) : CC Try.prog n_laws_markPolS [x0, x1] (p_laws_markPolS x0 x1) := cc Try.func99 [0, 1, 5] (fun _ => []) (by kernel_rfl)
/- laws.heldPolS -/
def p_laws_heldPolS (x0 x1 : AV) : Prog := .loop [x1, AV.int .i64 0] (fun vs1 => .op (.len 0 x0) fun v3 => .op (.bin 0 .lss (g vs1 1) v3) fun v4 => .ite v4 (.op (.idx 5 x0 (g vs1 1)) fun v5 => .op (.fad 0 v5) fun v6 => .op (.ld1 v6) fun v7 => .op (.bin 0 .neq v7 (g vs1 0)) fun v8 => .ite v8 (.fin [.val (AV.int .i64 (-1))]) (.op (.bin 0 .add (g vs1 0) (AV.int .i64 1)) fun v9 => .op (.idx 5 x0 (g vs1 1)) fun v10 => .op (.fad 1 v10) fun v11 => .op (.ld1 v11) fun v12 => .op (.bin 0 .neq v12 v9) fun v13 => .ite v13 (.fin [.val (AV.int .i64 (-1))]) (.op (.bin 0 .add v9 (AV.int .i64 1)) fun v14 => .op (.idx 5 x0 (g vs1 1)) fun v15 => .op (.fad 2 v15) fun v16 => .op (.ld1 v16) fun v17 => .op (.call n_laws_markText [v14]) fun v18 => .chk (.ld1 v16) v17 (.op (.bin 1 .neq v17 v18) fun v19 => .ite v19 (.fin [.val (AV.int .i64 (-1))]) (.op (.bin 0 .add v14 (AV.int .i64 1)) fun v20 => .op (.idx 5 x0 (g vs1 1)) fun v21 => .op (.fad 3 v21) fun v22 => .op (.ld1 v22) fun v23 => .op (.call n_laws_markText [v20]) fun v24 => .chk (.ld1 v22) v23 (.op (.bin 1 .neq v23 v24) fun v25 => .ite v25 (.fin [.val (AV.int .i64 (-1))]) (.op (.bin 0 .add v20 (AV.int .i64 1)) fun v26 => .op (.idx 5 x0 (g vs1 1)) fun v27 => .op (.fad 4 v27) fun v28 => .op (.ld1 v28) fun v29 => .op (.call n_laws_heldPolS [v29, v26]) fun v30 => .op (.bin 0 .lss v30 (AV.int .i64 0)) fun v31 => .ite v31 (.fin [.val (AV.int .i64 (-1))]) (.op (.bin 0 .add (g vs1 1) (AV.int .i64 1)) fun v32 => .leaf 0 [v30, v32])))))))) (.leaf 2 [g vs1 0, g vs1 1])) fun t2 vs1 => tsel t2 1 (.leaf 1 vs1) (tsel t2 2 (.fin [.val (g vs1 0)]) .bad)
theorem c_laws_heldPolS (x0 x1 : AV) : CC Try.prog n_laws_heldPolS [x0, x1] (p_laws_heldPolS x0 x1) := cc Try.func118 [0, 1, 5] (fun r => if r = 10 then [(0, []), (1, []), (2, []), (3, []), (4, []), (5, []), (6, [4]), (7, [])] else if r = 13 then [(0, []), (1, []), (2, []), (3, []), (4, []), (5, []), (6, [4]), (7, [])] else []) (by kernel_rfl)
/- laws.markPol -/
def p_laws_markPol (x0 x1 : AV) : Prog := .op (.box x0) fun v1 => .op (.fad 4 v1) fun v2 => .op (.ld1 v2) fun v3 => .op (.call n_laws_markPolS [v3, x1]) fun v4 => .fin [.val v4]
theorem c_laws_markPol (x0 x1 : AV) : CC Try.prog n_laws_markPol [x0, x1] (p_laws_markPol x0 x1) := cc Try.func55 [] (fun _ => []) (by kernel_rfl)
/- laws.heldPol -/
def p_laws_heldPol (x0 x1 : AV) : Prog := .op (.box x0) fun v1 => .op (.fad 4 v1) fun v2 => .op (.ld1 v2) fun v3 => .op (.call n_laws_heldPolS [v3, x1]) fun v4 => .op (.bin 0 .lss v4 (AV.int .i64 0)) fun v5 => .ite v5 (.fin [.val (AV.int .i64 (-1))]) (.fin [.val v4])
theorem c_laws_heldPol (x0 x1 : AV) : CC Try.prog n_laws_heldPol [x0, x1] (p_laws_heldPol x0 x1) := cc Try.func103 [] (fun _ => []) (by kernel_rfl)
/- laws.markConf -/
def p_laws_markConf (x0 x1 : AV) : Prog := .op (.box x0) fun v1 => .op (.fad 7 v1) fun v2 => .op (.ldn 5 v2) fun v3 => .op (.call n_laws_markPol [v3, x1]) fun v4 => .fin [.val v4]
theorem c_laws_markConf (x0 x1 : AV) : CC Try.prog n_laws_markConf [x0, x1] (p_laws_markConf x0 x1) := cc Try.func18 [] (fun _ => []) (by kernel_rfl)
/- laws.heldConf -/
def p_laws_heldConf (x0 x1 : AV) : Prog := .op (.box x0) fun v1 => .op (.fad 7 v1) fun v2 => .op (.ldn 5 v2) fun v3 => .op (.call n_laws_heldPol [v3, x1]) fun v4 => .op (.bin 0 .lss v4 (AV.int .i64 0)) fun v5 => .ite v5 (.fin [.val (AV.int .i64 (-1))]) (.fin [.val v4])
theorem c_laws_heldConf (x0 x1 : AV) : CC Try.prog n_laws_heldConf [x0, x1] (p_laws_heldConf x0 x1) := cc Try.func63 [] (fun _ => []) (by kernel_rfl)
/- laws.markTimerSS -/
def p_laws_markTimerSS (x0 x1 : AV) : Prog := .loop [x1, AV.int .i64 0] (fun vs1 => .op (.len 0 x0) fun v3 => .op (.bin 0 .lss (g vs1 1) v3) fun v4 => .ite v4 (.op (.idx 1 x0 (g vs1 1)) fun v5 => .op (.ld1 v5) fun v6 => .op (.call n_laws_markTimerS [v6, g vs1 0]) fun v7 => .op (.bin 0 .add (g vs1 1) (AV.int .i64 1)) fun v8 => .leaf 0 [v7, v8]) (.leaf 2 [g vs1 0, g vs1 1])) fun t2 vs1 => tsel t2 1 (.leaf 1 vs1) (tsel t2 2 (.fin [.val (g vs1 0)]) .bad)
theorem c_laws_markTimerSS (x0 x1 : AV) : CC Try.prog n_laws_markTimerSS [x0, x1] (p_laws_markTimerSS x0 x1) := cc Try.func101 [0, 1, 5] (fun _ => []) (by kernel_rfl)
/- laws.heldTimerSS -/
def p_laws_heldTimerSS (x0 x1 : AV) : Prog := .loop [x1, AV.int .i64 0] (fun vs1 => .op (.len 0 x0) fun v3 => .op (.bin 0 .lss (g vs1 1) v3) fun v4 => .ite v4 (.op (.idx 1 x0 (g vs1 1)) fun v5 => .op (.ld1 v5) fun v6 => .op (.call n_laws_heldTimerS [v6, g vs1 0]) fun v7 => .op (.bin 0 .lss v7 (AV.int .i64 0)) fun v8 => .ite v8 (.fin [.val (AV.int .i64 (-1))]) (.op (.bin 0 .add (g vs1 1) (AV.int .i64 1)) fun v9 => .leaf 0 [v7, v9])) (.leaf 2 [g vs1 0, g vs1 1])) fun t2 vs1 => tsel t2 1 (.leaf 1 vs1) (tsel t2 2 (.fin [.val (g vs1 0)]) .bad)
theorem c_laws_heldTimerSS (x0 x1 : AV) : CC Try.prog n_laws_heldTimerSS [x0, x1] (p_laws_heldTimerSS x0 x1) := cc Try.func105 [0, 1, 5] (fun _ => []) (by kernel_rfl)
/- laws.markWheel -/
def p_laws_markWheel (x0 x1 : AV) : Prog := .op (.box x0) fun v1 => .op (.fad 1 v1) fun v2 => .op (.ld1 v2) fun v3 => .op (.call n_laws_markTimerSS [v3, x1]) fun v4 => .op (.fad 2 v1) fun v5 => .op (.ld1 v5) fun v6 => .op (.call n_laws_markTimerSS [v6, v4]) fun v7 => .op (.fad 3 v1) fun v8 => .op (.ld1 v8) fun v9 => .op (.call n_laws_markTimerS [v9, v7]) fun v10 => .fin [.val v10]
theorem c_laws_markWheel (x0 x1 : AV) : CC Try.prog n_laws_markWheel [x0, x1] (p_laws_markWheel x0 x1) := cc Try.func58 [] (fun _ => []) (by kernel_rfl)
/- laws.heldWheel -/
def p_laws_heldWheel (x0 x1 : AV) : Prog := .op (.box x0) fun v1 => .op (.fad 1 v1) fun v2 => .op (.ld1 v2) fun v3 => .op (.call n_laws_heldTimerSS [v3, x1]) fun v4 => .op (.bin 0 .lss v4 (AV.int .i64 0)) fun v5 => .ite v5 (.fin [.val (AV.int .i64 (-1))]) (.op (.fad 2 v1) fun v6 => .op (.ld1 v6) fun v7 => .op (.call n_laws_heldTimerSS [v7, v4]) fun v8 => .op (.bin 0 .lss v8 (AV.int .i64 0)) fun v9 => .ite v9 (.fin [.val (AV.int .i64 (-1))]) (.op (.fad 3 v1) fun v10 => .op (.ld1 v10) fun v11 => .op (.call n_laws_heldTimerS [v11, v8]) fun v12 => .op (.bin 0 .lss v12 (AV.int .i64 0)) fun v13 => .ite v13 (.fin [.val (AV.int .i64 (-1))]) (.fin [.val v12])))
theorem c_laws_heldWheel (x0 x1 : AV) : CC Try.prog n_laws_heldWheel [x0, x1] (p_laws_heldWheel x0 x1) := cc Try.func66 [] (fun _ => []) (by kernel_rfl)
end
theorem markPols (xs : List Pol) (ih : ∀ x ∈ xs, MarkX Pol Try.prog n_laws_markPolS x.l) : MarkX Pol Try.prog n_laws_markPolS xs := fun v F n m h r o h0 h1 => c_laws_markPolS _ _ (Prog.awp_mono _ (pMark_spec (w := 5) rfl (ss := [([0], .i), ([1], .i), ([2], .s n_laws_markText), ([3], .s n_laws_markText), ([4], .l n_laws_markPolS)]) (fun x hx => by
  have := ih x hx
  cases x with
  | mk k n s t l => simp only [MOk, Fld.f, s_laws_markText, List.sum_cons, List.sum_nil]; simpa [Pol.l] using this) r o h0 h1) fun _ _ _ x => x)
theorem s_laws_markPolS : MarkS Pol Try.prog n_laws_markPolS := fun xs => markPols xs fun x _ => pol_ind (p := fun x => MarkX Pol Try.prog n_laws_markPolS x.l) (fun x ih => markPols x.l ih) x
theorem heldPols (xs : List Pol) (ih : ∀ x ∈ xs, HeldX Pol Try.prog n_laws_heldPolS x.l) : HeldX Pol Try.prog n_laws_heldPolS xs := fun v F m h r h0 h1 => reader (c_laws_heldPolS _ _) (by simp only [old]) (pHeld_spec (w := 5) rfl (ss := [([0], .i), ([1], .i), ([2], .s n_laws_markText), ([3], .s n_laws_markText), ([4], .l n_laws_heldPolS)]) (fun x hx => by
  have := ih x hx
  cases x with
  | mk k n s t l => simp only [HOk, Fld.f, s_laws_markText, List.sum_cons, List.sum_nil]; simpa [Pol.l] using this) r h0 h1)
theorem s_laws_heldPolS : HeldS Pol Try.prog n_laws_heldPolS := fun xs => heldPols xs fun x _ => pol_ind (p := fun x => HeldX Pol Try.prog n_laws_heldPolS x.l) (fun x ih => heldPols x.l ih) x
theorem s_laws_markPol {x : Pol} {v : AV} {F : List Nat} {n : Nat} {m : Int} {h : AH} (r : SlRep h v x.l F) (o : Own n h F) (h0 : 0 ≤ m) (h1 : (mks m x.l).2 ≤ 1099511627776) : ACalls Try.prog n_laws_markPol [.agg (x.cs v), .int .i64 m] h fun r h' => r = .int .i64 (mks m x.l).2 ∧ Kp h h' F ∧ SlRep h' v (mks m x.l).1 F ∧ Own n h' F := by
  refine c_laws_markPol _ _ ?_
  unfold p_laws_markPol
  (repeat' first|refine vs ?_|(refine br ?_ ?_<;>intro _<;>try(exfalso;first|omega|contradiction))|((with_reducible refine g_idx ?_);((first|refine ix ?_|refine ixi ?_|(refine ixg ?_;intro _ _)|(refine ixgi ?_;intro _ _));first|rintro _ _ _ _ _ ⟨rfl,rfl⟩ _|rintro _ _ _ _ _ ⟨_,rfl,_⟩ _|rintro _ _ _ _ _ ⟨_,_,_,_,rfl,rfl,_,_⟩ _|intro _ _ _ _ _ _ _))|(refine sx ?_;intro _ _)|((with_reducible refine g_awp ?_);simp only [g0,g1,g2]))
  refine aw_call (s_laws_markPolS _ _ F n _ _ slr_auto (o.ext ((Ext.refl h).push _) r.lt) h0 h1) ?_
  rintro _ h2 ⟨rfl, k2, q2, o2⟩
  (repeat' first|refine vs ?_|(refine br ?_ ?_<;>intro _<;>try(exfalso;first|omega|contradiction))|((with_reducible refine g_idx ?_);((first|refine ix ?_|refine ixi ?_|(refine ixg ?_;intro _ _)|(refine ixgi ?_;intro _ _));first|rintro _ _ _ _ _ ⟨rfl,rfl⟩ _|rintro _ _ _ _ _ ⟨_,rfl,_⟩ _|rintro _ _ _ _ _ ⟨_,_,_,_,rfl,rfl,_,_⟩ _|intro _ _ _ _ _ _ _))|(refine sx ?_;intro _ _)|((with_reducible refine g_awp ?_);simp only [g0,g1,g2]))
  exact ⟨rfl, _, rfl, rfl, (Kp.of_ext ((Ext.refl h).push _)).trans k2, q2, o2⟩
theorem s_laws_heldPol {x : Pol} {v : AV} {F : List Nat} {m : Int} {h : AH} (r : SlRep h v (mks m x.l).1 F) (h0 : 0 ≤ m) (h1 : (mks m x.l).2 ≤ 1099511627776) : RCalls Try.prog n_laws_heldPol [.agg (x.cs v), .int .i64 m] h (.int .i64 (mks m x.l).2) := by
  refine reader (c_laws_heldPol _ _) (by simp only [old]) ?_
  unfold p_laws_heldPol
  have hup := mks_upF x.l m
  (repeat' first|refine vs ?_|(refine br ?_ ?_<;>intro _<;>try(exfalso;first|omega|contradiction))|((with_reducible refine g_callf n_laws_heldPolS ?_);refine aw_rcall (s_laws_heldPolS _ _ _ _ _ slr_auto h0 h1) ?_)|((with_reducible refine g_idx ?_);((first|refine ix ?_|refine ixi ?_|(refine ixg ?_;intro _ _)|(refine ixgi ?_;intro _ _));first|rintro _ _ _ _ _ ⟨rfl,rfl⟩ _|rintro _ _ _ _ _ ⟨_,rfl,_⟩ _|rintro _ _ _ _ _ ⟨_,_,_,_,rfl,rfl,_,_⟩ _|intro _ _ _ _ _ _ _))|(refine sx ?_;intro _ _)|((with_reducible refine g_awp ?_);simp only [g0,g1,g2]))
  all_goals exact pi rfl
theorem s_laws_markConf {x : Conf} {v : AV} {F : List Nat} {n : Nat} {m : Int} {h : AH} (r : SlRep h v x.rule.l F) (o : Own n h F) (h0 : 0 ≤ m) (h1 : (mks m x.rule.l).2 ≤ 1099511627776) : ACalls Try.prog n_laws_markConf [.agg (x.cs v), .int .i64 m] h fun r h' => r = .int .i64 (mks m x.rule.l).2 ∧ Kp h h' F ∧ SlRep h' v (mks m x.rule.l).1 F ∧ Own n h' F := by
  refine c_laws_markConf _ _ ?_
  unfold p_laws_markConf
  (repeat' first|refine vs ?_|(refine br ?_ ?_<;>intro _<;>try(exfalso;first|omega|contradiction))|((with_reducible refine g_idx ?_);((first|refine ix ?_|refine ixi ?_|(refine ixg ?_;intro _ _)|(refine ixgi ?_;intro _ _));first|rintro _ _ _ _ _ ⟨rfl,rfl⟩ _|rintro _ _ _ _ _ ⟨_,rfl,_⟩ _|rintro _ _ _ _ _ ⟨_,_,_,_,rfl,rfl,_,_⟩ _|intro _ _ _ _ _ _ _))|(refine sx ?_;intro _ _)|((with_reducible refine g_awp ?_);simp only [g0,g1,g2]))
  refine aw_call (s_laws_markPol (x := x.rule) (F := F) (n := n) slr_auto (o.ext ((Ext.refl h).push _) r.lt) h0 h1) ?_
  rintro _ h2 ⟨rfl, k2, q2, o2⟩
  (repeat' first|refine vs ?_|(refine br ?_ ?_<;>intro _<;>try(exfalso;first|omega|contradiction))|((with_reducible refine g_idx ?_);((first|refine ix ?_|refine ixi ?_|(refine ixg ?_;intro _ _)|(refine ixgi ?_;intro _ _));first|rintro _ _ _ _ _ ⟨rfl,rfl⟩ _|rintro _ _ _ _ _ ⟨_,rfl,_⟩ _|rintro _ _ _ _ _ ⟨_,_,_,_,rfl,rfl,_,_⟩ _|intro _ _ _ _ _ _ _))|(refine sx ?_;intro _ _)|((with_reducible refine g_awp ?_);simp only [g0,g1,g2]))
  exact ⟨rfl, _, rfl, rfl, (Kp.of_ext ((Ext.refl h).push _)).trans k2, q2, o2⟩
theorem s_laws_heldConf {x : Conf} {v : AV} {F : List Nat} {m : Int} {h : AH} (r : SlRep h v (mks m x.rule.l).1 F) (h0 : 0 ≤ m) (h1 : (mks m x.rule.l).2 ≤ 1099511627776) : RCalls Try.prog n_laws_heldConf [.agg (x.cs v), .int .i64 m] h (.int .i64 (mks m x.rule.l).2) := by
  refine reader (c_laws_heldConf _ _) (by simp only [old]) ?_
  unfold p_laws_heldConf
  have hup := mks_upF x.rule.l m
  (repeat' first|refine vs ?_|(refine br ?_ ?_<;>intro _<;>try(exfalso;first|omega|contradiction))|((with_reducible refine g_callf n_laws_heldPol ?_);refine aw_rcall (s_laws_heldPol (x := x.rule) slr_auto h0 h1) ?_)|((with_reducible refine g_idx ?_);((first|refine ix ?_|refine ixi ?_|(refine ixg ?_;intro _ _)|(refine ixgi ?_;intro _ _));first|rintro _ _ _ _ _ ⟨rfl,rfl⟩ _|rintro _ _ _ _ _ ⟨_,rfl,_⟩ _|rintro _ _ _ _ _ ⟨_,_,_,_,rfl,rfl,_,_⟩ _|intro _ _ _ _ _ _ _))|(refine sx ?_;intro _ _)|((with_reducible refine g_awp ?_);simp only [g0,g1,g2]))
  all_goals exact pi rfl
theorem s_laws_markTimerSS : MarkS (List Ab.Timer) Try.prog n_laws_markTimerSS := fun xs v F n m h r o h0 h1 => c_laws_markTimerSS _ _ (Prog.awp_mono _ (pMark_spec (w := 1) rfl (ss := [([], .l n_laws_markTimerS)]) (fun x _ => by simp [MOk, Fld.f, s_laws_markTimerS.x]) r o h0 h1) fun _ _ _ x => x)
theorem s_laws_heldTimerSS : HeldS (List Ab.Timer) Try.prog n_laws_heldTimerSS := fun xs v F m h r h0 h1 => reader (c_laws_heldTimerSS _ _) (by simp only [old]) (pHeld_spec (w := 1) rfl (ss := [([], .l n_laws_heldTimerS)]) (fun x _ => by simp [HOk, Fld.f, s_laws_heldTimerS.x]) r h0 h1)

/-- What one owns, behind a step that leaves it one's own. -/
theorem own_step {n n' : Nat} {h h' : AH} {F G : List Nat} (o : Own n h F) (lt : ∀ b ∈ F, b < h.n) (k : Kp h h' G) (g : Own n' h' G) : Own n h' F := ⟨o.1, fun b hb => ⟨(o.2 b hb).1, by
  by_cases hg : b ∈ G
  · exact (g.2 b hg).2
  · rw [k.2 b (lt b hb) hg]; exact (o.2 b hb).2⟩⟩
def mkWheel (m : Int) (x : Wheel) : Wheel × Int := (⟨x.now, (mks m x.near).1, (mks (mks m x.near).2 x.far).1, (mks (mks (mks m x.near).2 x.far).2 x.rest).1⟩, (mks (mks (mks m x.near).2 x.far).2 x.rest).2)
theorem mkWheel_up (m : Int) (x : Wheel) : m ≤ (mkWheel m x).2 := by
  have := mks_upF x.near m
  have := mks_upF x.far (mks m x.near).2
  have := mks_upF x.rest (mks (mks m x.near).2 x.far).2
  show m ≤ (mks (mks (mks m x.near).2 x.far).2 x.rest).2
  omega
theorem s_laws_markWheel {x : Wheel} {v0 v1 v2 : AV} {F0 F1 F2 : List Nat} {n : Nat} {m : Int} {h : AH} (r0 : SlRep h v0 x.near F0) (r1 : SlRep h v1 x.far F1) (r2 : SlRep h v2 x.rest F2) (o : Own n h (F0 ++ (F1 ++ F2))) (h0 : 0 ≤ m) (h1 : (mkWheel m x).2 ≤ 1099511627776) :
    ACalls Try.prog n_laws_markWheel [.agg (x.cs v0 v1 v2), .int .i64 m] h fun r h' => r = .int .i64 (mkWheel m x).2 ∧ Kp h h' (F0 ++ (F1 ++ F2)) ∧ SlRep h' v0 (mkWheel m x).1.near F0 ∧ SlRep h' v1 (mkWheel m x).1.far F1 ∧ SlRep h' v2 (mkWheel m x).1.rest F2 ∧ Own n h' (F0 ++ (F1 ++ F2)) := by
  have o0 := own_l o
  have o1 := own_l (own_r o)
  have o2 := own_r (own_r o)
  have d01 := dis_l (own_d o)
  have d02 := dis_r (own_d o)
  have d12 := own_d (own_r o)
  have d10 : ∀ c ∈ F1, c ∉ F0 := fun c a b => d01 c b a
  have d20 : ∀ c ∈ F2, c ∉ F0 := fun c a b => d02 c b a
  have d21 : ∀ c ∈ F2, c ∉ F1 := fun c a b => d12 c b a
  have u0 := mks_upF x.near m
  have u1 := mks_upF x.far (mks m x.near).2
  have u2 := mks_upF x.rest (mks (mks m x.near).2 x.far).2
  have hm : (mks (mks (mks m x.near).2 x.far).2 x.rest).2 ≤ 1099511627776 := h1
  refine c_laws_markWheel _ _ ?_
  unfold p_laws_markWheel
  refine aw_box rfl ?_
  obtain ⟨H, hH⟩ : ∃ H, H = h.push ⟨x.cs v0 v1 v2, 0, 0⟩ := ⟨_, rfl⟩
  rw [← hH]
  have e : Ext h H := by rw [hH]; exact (Ext.refl h).push _
  have b : Bk H h.n (x.cs v0 v1 v2) 0 := by rw [hH]; exact bk_push
  have K : Kp h H (F0 ++ (F1 ++ F2)) := Kp.of_ext e
  have lt : ∀ c ∈ F0 ++ (F1 ++ F2), c < h.n := fun c hc => by
    simp only [List.mem_append] at hc
    rcases hc with g | g | g
    · exact r0.lt c g
    · exact r1.lt c g
    · exact r2.lt c g
  have nb0 : h.n ∉ F0 := fun g => Nat.lt_irrefl _ (lt _ (by simp [g]))
  have nb1 : h.n ∉ F1 := fun g => Nat.lt_irrefl _ (lt _ (by simp [g]))
  have OO := o.ext e lt
  replace o0 := o0.ext e r0.lt
  replace o1 := o1.ext e r1.lt
  replace o2 := o2.ext e r2.lt
  have LT : ∀ c ∈ F0 ++ (F1 ++ F2), c < H.n := fun c hc => Nat.lt_of_lt_of_le (lt c hc) e.1
  replace r0 := r0.ext e
  replace r1 := r1.ext e
  replace r2 := r2.ext e
  clear e hH
  (repeat' first|refine vs ?_|(refine br ?_ ?_<;>intro _<;>try(exfalso;first|omega|contradiction))|((with_reducible refine g_idx ?_);((first|refine ix ?_|refine ixi ?_|(refine ixg ?_;intro _ _)|(refine ixgi ?_;intro _ _));first|rintro _ _ _ _ _ ⟨rfl,rfl⟩ _|rintro _ _ _ _ _ ⟨_,rfl,_⟩ _|rintro _ _ _ _ _ ⟨_,_,_,_,rfl,rfl,_,_⟩ _|intro _ _ _ _ _ _ _))|(refine sx ?_;intro _ _)|((with_reducible refine g_awp ?_);simp only [g0,g1,g2]))
  refine aw_call (s_laws_markTimerSS _ _ F0 n _ _ r0 o0 h0 (by omega)) ?_
  rintro _ h2 ⟨rfl, k1, q0, p0⟩
  replace OO := own_step OO LT k1 p0
  replace LT : ∀ c ∈ F0 ++ (F1 ++ F2), c < h2.n := fun c hc => Nat.lt_of_lt_of_le (LT c hc) k1.1
  replace o1 := (ol_kp1 k1 ⟨o1, r1.lt⟩ d10).1
  replace o2 := (ol_kp1 k1 ⟨o2, r2.lt⟩ d20).1
  replace r1 := slr_kp1 k1 r1 d10
  replace r2 := slr_kp1 k1 r2 d20
  replace b := bk_kp1 k1 b nb0
  replace K := K.trans (k1.mono fun c hc => by simp [hc])
  clear k1
  (repeat' first|refine vs ?_|(refine br ?_ ?_<;>intro _<;>try(exfalso;first|omega|contradiction))|((with_reducible refine g_idx ?_);((first|refine ix ?_|refine ixi ?_|(refine ixg ?_;intro _ _)|(refine ixgi ?_;intro _ _));first|rintro _ _ _ _ _ ⟨rfl,rfl⟩ _|rintro _ _ _ _ _ ⟨_,rfl,_⟩ _|rintro _ _ _ _ _ ⟨_,_,_,_,rfl,rfl,_,_⟩ _|intro _ _ _ _ _ _ _))|(refine sx ?_;intro _ _)|((with_reducible refine g_awp ?_);simp only [g0,g1,g2]))
  refine aw_call (s_laws_markTimerSS _ _ F1 n _ _ r1 o1 (by omega) (by omega)) ?_
  rintro _ h3 ⟨rfl, k1, q1, p1⟩
  replace OO := own_step OO LT k1 p1
  replace LT : ∀ c ∈ F0 ++ (F1 ++ F2), c < h3.n := fun c hc => Nat.lt_of_lt_of_le (LT c hc) k1.1
  replace o2 := (ol_kp1 k1 ⟨o2, r2.lt⟩ d21).1
  replace q0 := slr_kp1 k1 q0 d01
  replace r2 := slr_kp1 k1 r2 d21
  replace b := bk_kp1 k1 b nb1
  replace K := K.trans (k1.mono fun c hc => by simp [hc])
  clear k1
  (repeat' first|refine vs ?_|(refine br ?_ ?_<;>intro _<;>try(exfalso;first|omega|contradiction))|((with_reducible refine g_idx ?_);((first|refine ix ?_|refine ixi ?_|(refine ixg ?_;intro _ _)|(refine ixgi ?_;intro _ _));first|rintro _ _ _ _ _ ⟨rfl,rfl⟩ _|rintro _ _ _ _ _ ⟨_,rfl,_⟩ _|rintro _ _ _ _ _ ⟨_,_,_,_,rfl,rfl,_,_⟩ _|intro _ _ _ _ _ _ _))|(refine sx ?_;intro _ _)|((with_reducible refine g_awp ?_);simp only [g0,g1,g2]))
  refine aw_call (s_laws_markTimerS _ _ F2 n _ _ r2 o2 (by omega) (by omega)) ?_
  rintro _ h4 ⟨rfl, k1, q2, p2⟩
  replace OO := own_step OO LT k1 p2
  replace q0 := slr_kp1 k1 q0 d02
  replace q1 := slr_kp1 k1 q1 d12
  replace K := K.trans (k1.mono fun c hc => by simp [hc])
  clear k1
  (repeat' first|refine vs ?_|(refine br ?_ ?_<;>intro _<;>try(exfalso;first|omega|contradiction))|((with_reducible refine g_idx ?_);((first|refine ix ?_|refine ixi ?_|(refine ixg ?_;intro _ _)|(refine ixgi ?_;intro _ _));first|rintro _ _ _ _ _ ⟨rfl,rfl⟩ _|rintro _ _ _ _ _ ⟨_,rfl,_⟩ _|rintro _ _ _ _ _ ⟨_,_,_,_,rfl,rfl,_,_⟩ _|intro _ _ _ _ _ _ _))|(refine sx ?_;intro _ _)|((with_reducible refine g_awp ?_);simp only [g0,g1,g2]))
  exact ⟨rfl, _, rfl, rfl, K, q0, q1, q2, OO⟩
theorem s_laws_heldWheel {x : Wheel} {v0 v1 v2 : AV} {F0 F1 F2 : List Nat} {m : Int} {h : AH} (r0 : SlRep h v0 (mkWheel m x).1.near F0) (r1 : SlRep h v1 (mkWheel m x).1.far F1) (r2 : SlRep h v2 (mkWheel m x).1.rest F2) (h0 : 0 ≤ m) (h1 : (mkWheel m x).2 ≤ 1099511627776) :
    RCalls Try.prog n_laws_heldWheel [.agg (x.cs v0 v1 v2), .int .i64 m] h (.int .i64 (mkWheel m x).2) := by
  have u0 := mks_upF x.near m
  have u1 := mks_upF x.far (mks m x.near).2
  have u2 := mks_upF x.rest (mks (mks m x.near).2 x.far).2
  have hm : (mks (mks (mks m x.near).2 x.far).2 x.rest).2 ≤ 1099511627776 := h1
  refine reader (c_laws_heldWheel _ _) (by simp only [old]) ?_
  unfold p_laws_heldWheel
  (repeat' first|refine vs ?_|(refine br ?_ ?_<;>intro _<;>try(exfalso;first|omega|contradiction))|((with_reducible refine g_idx ?_);((first|refine ix ?_|refine ixi ?_|(refine ixg ?_;intro _ _)|(refine ixgi ?_;intro _ _));first|rintro _ _ _ _ _ ⟨rfl,rfl⟩ _|rintro _ _ _ _ _ ⟨_,rfl,_⟩ _|rintro _ _ _ _ _ ⟨_,_,_,_,rfl,rfl,_,_⟩ _|intro _ _ _ _ _ _ _))|(refine sx ?_;intro _ _)|((with_reducible refine g_awp ?_);simp only [g0,g1,g2]))
  refine aw_rcall (s_laws_heldTimerSS x.near v0 F0 m _ (r0.ext ((Ext.refl h).push _)) h0 (by omega)) ?_
  (repeat' first|refine vs ?_|(refine br ?_ ?_<;>intro _<;>try(exfalso;first|omega|contradiction))|((with_reducible refine g_idx ?_);((first|refine ix ?_|refine ixi ?_|(refine ixg ?_;intro _ _)|(refine ixgi ?_;intro _ _));first|rintro _ _ _ _ _ ⟨rfl,rfl⟩ _|rintro _ _ _ _ _ ⟨_,rfl,_⟩ _|rintro _ _ _ _ _ ⟨_,_,_,_,rfl,rfl,_,_⟩ _|intro _ _ _ _ _ _ _))|(refine sx ?_;intro _ _)|((with_reducible refine g_awp ?_);simp only [g0,g1,g2]))
  refine aw_rcall (s_laws_heldTimerSS x.far v1 F1 _ _ (r1.ext ((Ext.refl h).push _)) (by omega) (by omega)) ?_
  (repeat' first|refine vs ?_|(refine br ?_ ?_<;>intro _<;>try(exfalso;first|omega|contradiction))|((with_reducible refine g_idx ?_);((first|refine ix ?_|refine ixi ?_|(refine ixg ?_;intro _ _)|(refine ixgi ?_;intro _ _));first|rintro _ _ _ _ _ ⟨rfl,rfl⟩ _|rintro _ _ _ _ _ ⟨_,rfl,_⟩ _|rintro _ _ _ _ _ ⟨_,_,_,_,rfl,rfl,_,_⟩ _|intro _ _ _ _ _ _ _))|(refine sx ?_;intro _ _)|((with_reducible refine g_awp ?_);simp only [g0,g1,g2]))
  refine aw_rcall (s_laws_heldTimerS x.rest v2 F2 _ _ (r2.ext ((Ext.refl h).push _)) (by omega) (by omega)) ?_
  (repeat' first|refine vs ?_|(refine br ?_ ?_<;>intro _<;>try(exfalso;first|omega|contradiction))|((with_reducible refine g_idx ?_);((first|refine ix ?_|refine ixi ?_|(refine ixg ?_;intro _ _)|(refine ixgi ?_;intro _ _));first|rintro _ _ _ _ _ ⟨rfl,rfl⟩ _|rintro _ _ _ _ _ ⟨_,rfl,_⟩ _|rintro _ _ _ _ _ ⟨_,_,_,_,rfl,rfl,_,_⟩ _|intro _ _ _ _ _ _ _))|(refine sx ?_;intro _ _)|((with_reducible refine g_awp ?_);simp only [g0,g1,g2]))
  exact pi rfl
end Go.Proofs.Ytideefohbkhhhaa
