
/- Bucket: copies, comparisons, sizes. Written by mkl.py. -/
import Derived.Test.YtideefohbkhhhaaGreatNm
import Derived.Test.YtideefohbkhhhaaGreatK4
set_option linter.unusedSimpArgs false
set_option linter.unusedVariables false
set_option maxHeartbeats 1000000
namespace Go.Proofs.YtideefohbkhhhaaGreat
open Go Go.Ab
section
/- laws.toBucket -/
def p_laws_toBucket (x0 : AV) : Prog := .op (.box x0) fun v1 => .op (.alloc [AV.int .i64 0, AV.int .i64 0, AV.int .i64 0, AV.int .i64 0]) fun v2 => .op (.alloc [AV.int .i64 0, AV.int .i64 0, AV.int .i64 0, AV.int .i64 0]) fun v3 => .op (.fad 0 v1) fun v4 => .op (.ld1 v4) fun v5 => .op (.fad 0 v3) fun v6 => .op (.st 1 v6 v5) fun v7 => .op (.fad 1 v1) fun v8 => .op (.ld1 v8) fun v9 => .op (.fad 1 v3) fun v10 => .op (.st 1 v10 v9) fun v11 => .op (.fad 2 v1) fun v12 => .op (.ld1 v12) fun v13 => .op (.fad 2 v3) fun v14 => .op (.st 1 v14 v13) fun v15 => .op (.fad 3 v1) fun v16 => .op (.ld1 v16) fun v17 => .op (.fad 3 v3) fun v18 => .op (.st 1 v18 v17) fun v19 => .op (.ldn 4 v3) fun v20 => .op (.st 4 v2 v20) fun v21 => .fin [.cn 4 v2]
theorem c_laws_toBucket (x0 : AV) : CC Tryz.prog n_laws_toBucket [x0] (p_laws_toBucket x0) := cc Tryz.func57 [] (fun _ => []) (by kernel_rfl)
/- laws.eqBucket -/
def p_laws_eqBucket (x0 x1 : AV) : Prog := .op (.box x0) fun v1 => .op (.box x1) fun v2 => .op (.fad 0 v1) fun v3 => .op (.ld1 v3) fun v4 => .op (.fad 0 v2) fun v5 => .op (.ld1 v5) fun v6 => .op (.bin 0 .neq v4 v6) fun v7 => .ite v7 (.fin [.val (AV.bool false)]) (.op (.fad 1 v1) fun v8 => .op (.ld1 v8) fun v9 => .op (.fad 1 v2) fun v10 => .op (.ld1 v10) fun v11 => .op (.bin 0 .neq v9 v11) fun v12 => .ite v12 (.fin [.val (AV.bool false)]) (.op (.fad 2 v1) fun v13 => .op (.ld1 v13) fun v14 => .op (.fad 2 v2) fun v15 => .op (.ld1 v15) fun v16 => .op (.bin 0 .neq v14 v16) fun v17 => .ite v17 (.fin [.val (AV.bool false)]) (.op (.fad 3 v1) fun v18 => .op (.ld1 v18) fun v19 => .op (.fad 3 v2) fun v20 => .op (.ld1 v20) fun v21 => .op (.bin 0 .neq v19 v21) fun v22 => .ite v22 (.fin [.val (AV.bool false)]) (.fin [.val (AV.bool true)]))))
theorem c_laws_eqBucket (x0 x1 : AV) : CC Tryz.prog n_laws_eqBucket [x0, x1] (p_laws_eqBucket x0 x1) := cc Tryz.func69 [] (fun _ => []) (by kernel_rfl)
end
theorem s_laws_toBucket (x : Bucket) (hs : Sz.sz x ≤ 1048576) : CopyX Bucket Tryz.prog n_laws_toBucket x := by
  rintro cs F h ⟨rfl, rfl⟩
  have hs : 0 ≤ 1048576 := hs
  refine c_laws_toBucket _ ?_
  unfold p_laws_toBucket
  (repeat' first|refine vs ?_|(refine br ?_ ?_<;>intro _<;>try(exfalso;first|omega|contradiction))|((with_reducible refine g_idx ?_);((first|refine ix ?_|refine ixi ?_|(refine ixg ?_;intro _ _)|(refine ixgi ?_;intro _ _));first|rintro _ _ _ _ _ ⟨rfl,rfl⟩ _|rintro _ _ _ _ _ ⟨_,rfl,_⟩ _|rintro _ _ _ _ _ ⟨_,_,_,_,rfl,rfl,_,_⟩ _|intro _ _ _ _ _ _ _))|(refine sx ?_;intro _ _)|((with_reducible refine g_awp ?_);simp only [g0,g1,g2]))
  exact ⟨rfl, _, rfl, ext_auto, _, _, rfl, ⟨rfl, rfl⟩, Own.nil⟩
theorem s_laws_eqBucket : EqC Bucket Tryz.prog n_laws_eqBucket := by
  rintro x cs cs' F F' h ⟨rfl, rfl⟩ ⟨rfl, rfl⟩
  refine reader (c_laws_eqBucket _ _) (by simp only [old]) ?_
  unfold p_laws_eqBucket
  (repeat' first|refine vs ?_|(refine br ?_ ?_<;>intro _<;>try(exfalso;first|omega|contradiction))|((with_reducible refine g_idx ?_);((first|refine ix ?_|refine ixi ?_|(refine ixg ?_;intro _ _)|(refine ixgi ?_;intro _ _));first|rintro _ _ _ _ _ ⟨rfl,rfl⟩ _|rintro _ _ _ _ _ ⟨_,rfl,_⟩ _|rintro _ _ _ _ _ ⟨_,_,_,_,rfl,rfl,_,_⟩ _|intro _ _ _ _ _ _ _))|(refine sx ?_;intro _ _)|((with_reducible refine g_awp ?_);simp only [g0,g1,g2]))
  exact pb rfl
end Go.Proofs.YtideefohbkhhhaaGreat
