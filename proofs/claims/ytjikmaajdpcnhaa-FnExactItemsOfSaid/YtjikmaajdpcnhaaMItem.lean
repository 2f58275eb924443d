
/- Item: marks. Written by mkm.py. -/
import Derived.Test.YtjikmaajdpcnhaaMAttr
set_option linter.unusedSimpArgs false
set_option linter.unusedVariables false
set_option maxHeartbeats 1000000
namespace Go.Proofs.Ytjikmaajdpcnhaa
open Go Go.Ab
section
/- laws.markItemS -/
def p_laws_markItemS (x0 x1 : AV) : Prog := .loop [x1, AV.int .i64 0] (fun vs1 => .op (.len 0 x0) fun v3 => .op (.bin 0 .lss (g vs1 1) v3) fun v4 => .ite v4 (.op (.idx 7 x0 (g vs1 1)) fun v5 => .op (.fad 0 v5) fun v6 => .op (.st 1 v6 (g vs1 0)) fun v7 => .op (.bin 0 .add (g vs1 0) (AV.int .i64 1)) fun v8 => .op (.idx 7 x0 (g vs1 1)) fun v9 => .op (.fad 1 v9) fun v10 => .op (.fad 0 v10) fun v11 => .op (.st 1 v11 v8) fun v12 => .op (.bin 0 .add v8 (AV.int .i64 1)) fun v13 => .op (.idx 7 x0 (g vs1 1)) fun v14 => .op (.fad 1 v14) fun v15 => .op (.fad 1 v15) fun v16 => .op (.st 1 v16 v13) fun v17 => .op (.bin 0 .add v13 (AV.int .i64 1)) fun v18 => .op (.idx 7 x0 (g vs1 1)) fun v19 => .op (.fad 1 v19) fun v20 => .op (.fad 2 v20) fun v21 => .op (.st 1 v21 v18) fun v22 => .op (.bin 0 .add v18 (AV.int .i64 1)) fun v23 => .op (.idx 7 x0 (g vs1 1)) fun v24 => .op (.fad 1 v24) fun v25 => .op (.fad 3 v25) fun v26 => .op (.st 1 v26 v23) fun v27 => .op (.bin 0 .add v23 (AV.int .i64 1)) fun v28 => .op (.bin 0 .rem v28 (AV.int .i64 3)) fun v29 => .op (.bin 0 .eql v29 (AV.int .i64 0)) fun v30 => .op (.idx 7 x0 (g vs1 1)) fun v31 => .op (.fad 1 v31) fun v32 => .op (.fad 4 v32) fun v33 => .op (.st 1 v33 v30) fun v34 => .op (.bin 0 .add v28 (AV.int .i64 1)) fun v35 => .op (.idx 7 x0 (g vs1 1)) fun v36 => .op (.fad 1 v36) fun v37 => .op (.fad 5 v37) fun v38 => .op (.ld1 v38) fun v39 => .op (.call n_laws_markAttrS [v39, v35]) fun v40 => .op (.bin 0 .add (g vs1 1) (AV.int .i64 1)) fun v41 => .leaf 0 [v40, v41]) (.leaf 2 [g vs1 0, g vs1 1])) fun t2 vs1 => tsel t2 1 (.leaf 1 vs1) (tsel t2 2 (.fin [.val (g vs1 0)]) .bad)
theorem c_laws_markItemS (x0 x1 : AV) {h : AH} {R : AV → AH → Prop} (g : (p_laws_markItemS x0 x1).awp Try.prog h fun t vs h' => t = 1 ∧ ∃ v, vs = [v] ∧ R v h') : ACalls Try.prog n_laws_markItemS [x0, x1] h R :=
  acalls_of follows Try.func41 (by kernel_rfl) (by kernel_rfl) [0, 1, 5] (fun _ => []) (show trF Try.prog Try.f41 _ _ [x0, x1] = p_laws_markItemS x0 x1 by kernel_rfl) g
end
theorem s_laws_markItemS : MarkS Itm Try.prog n_laws_markItemS := fun xs v F n m h r o h0 h1 => c_laws_markItemS _ _ (Prog.awp_mono _ (pMark_spec (w := 7) rfl (ss := [([0], .i), ([1, 0], .i), ([1, 1], .i), ([1, 2], .i), ([1, 3], .i), ([1, 4], .b), ([1, 5], .l n_laws_markAttrS)]) (fun x => by simp [MOk, Fld.f, s_laws_markAttrS]) r o h0 h1) fun _ _ _ x => x)
end Go.Proofs.Ytjikmaajdpcnhaa
