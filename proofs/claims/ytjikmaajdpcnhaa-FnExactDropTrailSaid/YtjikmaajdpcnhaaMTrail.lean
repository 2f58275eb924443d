
/- Trail: marks. Written by mkm.py. -/
import Derived.Test.YtjikmaajdpcnhaaMSpan
set_option linter.unusedSimpArgs false
set_option linter.unusedVariables false
set_option maxHeartbeats 1000000
namespace Go.Proofs.Ytjikmaajdpcnhaa
open Go Go.Ab
section
/- laws.markTrailS -/
def p_laws_markTrailS (x0 x1 : AV) : Prog := .loop [x1, AV.int .i64 0] (fun vs1 => .op (.len 0 x0) fun v3 => .op (.bin 0 .lss (g vs1 1) v3) fun v4 => .ite v4 (.op (.idx 4 x0 (g vs1 1)) fun v5 => .op (.fad 0 v5) fun v6 => .op (.st 1 v6 (g vs1 0)) fun v7 => .op (.bin 0 .add (g vs1 0) (AV.int .i64 1)) fun v8 => .op (.idx 4 x0 (g vs1 1)) fun v9 => .op (.fad 1 v9) fun v10 => .op (.st 1 v10 v8) fun v11 => .op (.bin 0 .add v8 (AV.int .i64 1)) fun v12 => .op (.idx 4 x0 (g vs1 1)) fun v13 => .op (.fad 2 v13) fun v14 => .op (.st 1 v14 v12) fun v15 => .op (.bin 0 .add v12 (AV.int .i64 1)) fun v16 => .op (.idx 4 x0 (g vs1 1)) fun v17 => .op (.fad 3 v17) fun v18 => .op (.ld1 v18) fun v19 => .op (.call n_laws_markSpanS [v19, v16]) fun v20 => .op (.bin 0 .add (g vs1 1) (AV.int .i64 1)) fun v21 => .leaf 0 [v20, v21]) (.leaf 2 [g vs1 0, g vs1 1])) fun t2 vs1 => tsel t2 1 (.leaf 1 vs1) (tsel t2 2 (.fin [.val (g vs1 0)]) .bad)
theorem c_laws_markTrailS (x0 x1 : AV) {h : AH} {R : AV → AH → Prop} (g : (p_laws_markTrailS x0 x1).awp Try.prog h fun t vs h' => t = 1 ∧ ∃ v, vs = [v] ∧ R v h') : ACalls Try.prog n_laws_markTrailS [x0, x1] h R :=
  acalls_of follows Try.func81 (by kernel_rfl) (by kernel_rfl) [0, 1, 5] (fun _ => []) (show trF Try.prog Try.f81 _ _ [x0, x1] = p_laws_markTrailS x0 x1 by kernel_rfl) g
/- laws.heldTrailS -/
def p_laws_heldTrailS (x0 x1 : AV) : Prog := .loop [x1, AV.int .i64 0] (fun vs1 => .op (.len 0 x0) fun v3 => .op (.bin 0 .lss (g vs1 1) v3) fun v4 => .ite v4 (.op (.idx 4 x0 (g vs1 1)) fun v5 => .op (.fad 0 v5) fun v6 => .op (.ld1 v6) fun v7 => .op (.bin 0 .neq v7 (g vs1 0)) fun v8 => .ite v8 (.fin [.val (AV.int .i64 (-1))]) (.op (.bin 0 .add (g vs1 0) (AV.int .i64 1)) fun v9 => .op (.idx 4 x0 (g vs1 1)) fun v10 => .op (.fad 1 v10) fun v11 => .op (.ld1 v11) fun v12 => .op (.bin 0 .neq v12 v9) fun v13 => .ite v13 (.fin [.val (AV.int .i64 (-1))]) (.op (.bin 0 .add v9 (AV.int .i64 1)) fun v14 => .op (.idx 4 x0 (g vs1 1)) fun v15 => .op (.fad 2 v15) fun v16 => .op (.ld1 v16) fun v17 => .op (.bin 0 .neq v17 v14) fun v18 => .ite v18 (.fin [.val (AV.int .i64 (-1))]) (.op (.bin 0 .add v14 (AV.int .i64 1)) fun v19 => .op (.idx 4 x0 (g vs1 1)) fun v20 => .op (.fad 3 v20) fun v21 => .op (.ld1 v21) fun v22 => .op (.call n_laws_heldSpanS [v22, v19]) fun v23 => .op (.bin 0 .lss v23 (AV.int .i64 0)) fun v24 => .ite v24 (.fin [.val (AV.int .i64 (-1))]) (.op (.bin 0 .add (g vs1 1) (AV.int .i64 1)) fun v25 => .leaf 0 [v23, v25]))))) (.leaf 2 [g vs1 0, g vs1 1])) fun t2 vs1 => tsel t2 1 (.leaf 1 vs1) (tsel t2 2 (.fin [.val (g vs1 0)]) .bad)
theorem c_laws_heldTrailS (x0 x1 : AV) {h : AH} {R : AV → AH → Prop} (g : (p_laws_heldTrailS x0 x1).awp Try.prog h fun t vs h' => t = 1 ∧ ∃ v, vs = [v] ∧ R v h') : ACalls Try.prog n_laws_heldTrailS [x0, x1] h R :=
  acalls_of follows Try.func83 (by kernel_rfl) (by kernel_rfl) [0, 1, 5] (fun _ => []) (show trF Try.prog Try.f83 _ _ [x0, x1] = p_laws_heldTrailS x0 x1 by kernel_rfl) g
/- laws.markTrail -/
def p_laws_markTrail (x0 x1 : AV) : Prog := .op (.box x0) fun v1 => .op (.fad 3 v1) fun v2 => .op (.ld1 v2) fun v3 => .op (.call n_laws_markSpanS [v3, x1]) fun v4 => .fin [.val v4]
theorem c_laws_markTrail (x0 x1 : AV) {h : AH} {R : AV → AH → Prop} (g : (p_laws_markTrail x0 x1).awp Try.prog h fun t vs h' => t = 1 ∧ ∃ v, vs = [v] ∧ R v h') : ACalls Try.prog n_laws_markTrail [x0, x1] h R :=
  acalls_of follows Try.func60 (by kernel_rfl) (by kernel_rfl) [] (fun _ => []) (show trF Try.prog Try.f60 _ _ [x0, x1] = p_laws_markTrail x0 x1 by kernel_rfl) g
/- laws.heldTrail -/
def p_laws_heldTrail (x0 x1 : AV) : Prog := .op (.box x0) fun v1 => .op (.fad 3 v1) fun v2 => .op (.ld1 v2) fun v3 => .op (.call n_laws_heldSpanS [v3, x1]) fun v4 => .op (.bin 0 .lss v4 (AV.int .i64 0)) fun v5 => .ite v5 (.fin [.val (AV.int .i64 (-1))]) (.fin [.val v4])
theorem c_laws_heldTrail (x0 x1 : AV) {h : AH} {R : AV → AH → Prop} (g : (p_laws_heldTrail x0 x1).awp Try.prog h fun t vs h' => t = 1 ∧ ∃ v, vs = [v] ∧ R v h') : ACalls Try.prog n_laws_heldTrail [x0, x1] h R :=
  acalls_of follows Try.func61 (by kernel_rfl) (by kernel_rfl) [] (fun _ => []) (show trF Try.prog Try.f61 _ _ [x0, x1] = p_laws_heldTrail x0 x1 by kernel_rfl) g
end
theorem s_laws_markTrailS : MarkS Trail Try.prog n_laws_markTrailS := fun xs v F n m h r o h0 h1 => c_laws_markTrailS _ _ (Prog.awp_mono _ (pMark_spec (w := 4) rfl (ss := [([0], .i), ([1], .i), ([2], .i), ([3], .l n_laws_markSpanS)]) (fun x => by simp [MOk, Fld.f, s_laws_markSpanS]) r o h0 h1) fun _ _ _ x => x)
theorem s_laws_heldTrailS : HeldS Trail Try.prog n_laws_heldTrailS := fun xs v F m h r h0 h1 => reader (c_laws_heldTrailS _ _) (by simp only [old]) (pHeld_spec (w := 4) rfl (ss := [([0], .i), ([1], .i), ([2], .i), ([3], .l n_laws_heldSpanS)]) (fun x => by simp [HOk, Fld.f, s_laws_heldSpanS]) r h0 h1)
theorem s_laws_markTrail {x : Trail} {v : AV} {F : List Nat} {n : Nat} {m : Int} {h : AH} (r : SlRep h v x.spans F) (o : Own n h F) (h0 : 0 ≤ m) (h1 : (mks m x.spans).2 ≤ 1099511627776) : ACalls Try.prog n_laws_markTrail [.agg (x.cs v), .int .i64 m] h fun r h' => r = .int .i64 (mks m x.spans).2 ∧ Kp h h' F ∧ SlRep h' v (mks m x.spans).1 F ∧ Own n h' F := by
  refine c_laws_markTrail _ _ ?_
  unfold p_laws_markTrail
  (repeat' first|refine vs ?_|(refine br ?_ ?_<;>intro _<;>try(exfalso;first|omega|contradiction))|((with_reducible refine g_idx ?_);((first|refine ix ?_|refine ixi ?_|(refine ixg ?_;intro _ _)|(refine ixgi ?_;intro _ _));first|rintro _ _ _ _ _ ⟨rfl,rfl⟩ _|rintro _ _ _ _ _ ⟨_,rfl,_⟩ _|rintro _ _ _ _ _ ⟨_,_,_,_,rfl,rfl,_,_⟩ _|intro _ _ _ _ _ _ _))|(refine sx ?_;intro _ _)|((with_reducible refine g_awp ?_);simp only [g0,g1,g2]))
  refine aw_call (s_laws_markSpanS _ _ F n _ _ slr_auto (o.ext ((Ext.refl h).push _) r.lt) h0 h1) ?_
  rintro _ h2 ⟨rfl, k2, q2, o2⟩
  (repeat' first|refine vs ?_|(refine br ?_ ?_<;>intro _<;>try(exfalso;first|omega|contradiction))|((with_reducible refine g_idx ?_);((first|refine ix ?_|refine ixi ?_|(refine ixg ?_;intro _ _)|(refine ixgi ?_;intro _ _));first|rintro _ _ _ _ _ ⟨rfl,rfl⟩ _|rintro _ _ _ _ _ ⟨_,rfl,_⟩ _|rintro _ _ _ _ _ ⟨_,_,_,_,rfl,rfl,_,_⟩ _|intro _ _ _ _ _ _ _))|(refine sx ?_;intro _ _)|((with_reducible refine g_awp ?_);simp only [g0,g1,g2]))
  exact ⟨rfl, _, rfl, rfl, (Kp.of_ext ((Ext.refl h).push _)).trans k2, q2, o2⟩
theorem s_laws_heldTrail {x : Trail} {v : AV} {F : List Nat} {m : Int} {h : AH} (r : SlRep h v (mks m x.spans).1 F) (h0 : 0 ≤ m) (h1 : (mks m x.spans).2 ≤ 1099511627776) : RCalls Try.prog n_laws_heldTrail [.agg (x.cs v), .int .i64 m] h (.int .i64 (mks m x.spans).2) := by
  refine reader (c_laws_heldTrail _ _) (by simp only [old]) ?_
  unfold p_laws_heldTrail
  have hup := mks_upF x.spans m
  (repeat' first|refine vs ?_|(refine br ?_ ?_<;>intro _<;>try(exfalso;first|omega|contradiction))|((with_reducible refine g_callf n_laws_heldSpanS ?_);refine aw_rcall (s_laws_heldSpanS _ _ _ _ _ slr_auto h0 h1) ?_)|((with_reducible refine g_idx ?_);((first|refine ix ?_|refine ixi ?_|(refine ixg ?_;intro _ _)|(refine ixgi ?_;intro _ _));first|rintro _ _ _ _ _ ⟨rfl,rfl⟩ _|rintro _ _ _ _ _ ⟨_,rfl,_⟩ _|rintro _ _ _ _ _ ⟨_,_,_,_,rfl,rfl,_,_⟩ _|intro _ _ _ _ _ _ _))|(refine sx ?_;intro _ _)|((with_reducible refine g_awp ?_);simp only [g0,g1,g2]))
  all_goals exact pi rfl
end Go.Proofs.Ytjikmaajdpcnhaa
