
/- Worlds: the stamps, by the program. -/
import Derived.Test.YtideefohbkhhhaaGreatW25
import Derived.Test.YtideefohbkhhhaaGreatW19
set_option linter.unusedSimpArgs false
set_option linter.unusedVariables false
set_option maxHeartbeats 8000000
namespace Go.Proofs.YtideefohbkhhhaaGreat
open Go Go.Ab
section
/- impl.stampsOk$1 -/
def p_impl_stampsOk_1 (x0 x1 : AV) : Prog := .op (.box x0) fun v1 => .op (.fad 0 v1) fun v2 => .op (.ld1 v2) fun v3 => .op (.fad 1 x1) fun v4 => .op (.ld1 v4) fun v5 => .op (.bin 0 .eql v3 v5) fun v6 => .gop v6 true (.fad 1 v1) fun v7 => .gop v6 true (.ld1 v7) fun v8 => .gop v6 true (.fad 0 x1) fun v9 => .gop v6 true (.ld1 v9) fun v10 => .gop v6 true (.bin 0 .eql v8 v10) fun v11 => .op (.pick v6 v11 (AV.bool false)) fun v12 => .fin [.val v12]
theorem c_impl_stampsOk_1 (x0 x1 : AV) : CC Tryz.prog n_impl_stampsOk_1 [x0, x1] (p_impl_stampsOk_1 x0 x1) := cc Tryz.func154 [] (fun _ => []) (by kernel_rfl)
/- impl.stampsOk$2 -/
def p_impl_stampsOk_2 (x0 x1 : AV) : Prog := .op (.fad 31 x1) fun v1 => .op (.ld1 v1) fun v2 => .op (.bin 0 .geq x0 v2) fun v3 => .fin [.val v3]
theorem c_impl_stampsOk_2 (x0 x1 : AV) : CC Tryz.prog n_impl_stampsOk_2 [x0, x1] (p_impl_stampsOk_2 x0 x1) := cc Tryz.func156 [] (fun _ => []) (by kernel_rfl)
/- slices.ContainsFunc[[]impl.Timer,impl.Timer] -/
def p_slices_ContainsFunc_Timer (x0 x1 : AV) : Prog := .op (.call n_slices_IndexFunc_Timer [x0, x1]) fun v1 => .op (.bin 0 .geq v1 (AV.int .i64 0)) fun v2 => .fin [.val v2]
theorem c_slices_ContainsFunc_Timer (x0 x1 : AV) : CC Tryz.prog n_slices_ContainsFunc_Timer [x0, x1] (p_slices_ContainsFunc_Timer x0 x1) := cc Tryz.func153 [] (fun _ => []) (by kernel_rfl)
/- slices.IndexFunc[[]int,int] -/
def p_slices_IndexFunc_int (x0 x1 : AV) : Prog := .op (.len 0 x0) fun v1 => .loop [AV.int .i64 0] (fun vs2 => .op (.bin 0 .lss (g vs2 0) v1) fun v4 => .ite v4 (.op (.idx 1 x0 (g vs2 0)) fun v5 => .op (.ld1 v5) fun v6 => .op (.callv x1 [v6]) fun v7 => .ite v7 (.fin [.val (g vs2 0)]) (.op (.bin 0 .add (g vs2 0) (AV.int .i64 1)) fun v8 => .leaf 0 [v8])) (.leaf 2 [g vs2 0])) fun t3 vs2 => tsel t3 1 (.leaf 1 vs2) (tsel t3 2 (.fin [.val (AV.int .i64 (-1))]) .bad)
theorem c_slices_IndexFunc_int (x0 x1 : AV) : CC Tryz.prog n_slices_IndexFunc_int [x0, x1] (p_slices_IndexFunc_int x0 x1) := cc Tryz.func230 [0, 1, 7, 8] (fun _ => []) (by kernel_rfl)
/- slices.ContainsFunc[[]int,int] -/
def p_slices_ContainsFunc_int (x0 x1 : AV) : Prog := .op (.call n_slices_IndexFunc_int [x0, x1]) fun v1 => .op (.bin 0 .geq v1 (AV.int .i64 0)) fun v2 => .fin [.val v2]
theorem c_slices_ContainsFunc_int (x0 x1 : AV) : CC Tryz.prog n_slices_ContainsFunc_int [x0, x1] (p_slices_ContainsFunc_int x0 x1) := cc Tryz.func155 [] (fun _ => []) (by kernel_rfl)
/- impl.stampsOk -/
abbrev q_impl_stampsOk_1 (v46 : AV) (vs39 : List AV) (v44 : AV) : Prog := .op (.ld1 v46) fun v47 => .op (.bslice 1 1 [AV.int .i64 0] [(0, 1, v47)]) fun v48 => .op (.app 1 8 (g vs39 0) v48) fun v49 => .op (.fad 0 v44) fun v50 => .op (.ld1 v50) fun v51 => .op (.bin 0 .eql v51 (AV.int .i64 2)) fun v52 => .gop v52 true (.fad 1 v44) fun v53 => .gop v52 true (.ld1 v53) fun v54 => .gop v52 true (.bin 0 .neq v54 (AV.int .i64 3)) fun v55 => .op (.pick v52 v55 (AV.bool false)) fun v56 => .scope (.ite v56 (.op (.fad 9 v44) fun v57 => .op (.ld1 v57) fun v58 => .op (.fad 8 v44) fun v59 => .op (.ld1 v59) fun v60 => .op (.build [AV.int .i64 0, AV.int .i64 0, AV.int .i64 0] [(0, 1, v58), (1, 1, v60)]) fun v61 => .op (.bslice 3 1 [AV.int .i64 0, AV.int .i64 0, AV.int .i64 0] [(0, 3, v61)]) fun v62 => .op (.app 3 24 (g vs39 1) v62) fun v63 => .leaf 0 [v63]) (.leaf 0 [g vs39 1])) (fun vs64 => .op (.bin 0 .add (g vs39 2) (AV.int .i64 1)) fun v66 => .leaf 0 [v49, g vs64 0, v66]) fun t65 vs64 => tsel t65 1 (.leaf 1 vs64) .bad
abbrev q_impl_stampsOk_2 (v74 : AV) (vs71 : List AV) (vs39 : List AV) : Prog := .op (.ldn 4 v74) fun v75 => .op (.alloc [AV.int .i64 0, AV.int .i64 0, AV.int .i64 0, AV.nils]) fun v76 => .op (.st 4 v76 v75) fun v77 => .op (.fad 1 v76) fun v78 => .op (.ld1 v78) fun v79 => .op (.bslice 1 1 [AV.int .i64 0] [(0, 1, v79)]) fun v80 => .op (.app 1 8 (g vs71 0) v80) fun v81 => .op (.mkfn n_impl_stampsOk_1 [v76]) fun v82 => .op (.call n_slices_ContainsFunc_Timer [g vs39 1, v82]) fun v83 => .op (.una .not v83) fun v84 => .ite v84 (.fin [.val (AV.bool false)]) (.op (.bin 0 .add (g vs71 1) (AV.int .i64 1)) fun v85 => .leaf 0 [v81, v85])
def p_impl_stampsOk (x0 : AV) : Prog := .op (.box x0) fun v1 => .op (.fad 22 v1) fun v2 => .op (.ldn 4 v2) fun v3 => .op (.fad 26 v1) fun v4 => .op (.ld1 v4) fun v5 => .op (.call n_impl_Timers [v3]) fun v6 => .chk (.ld1 v4) v5 (.op (.app 3 24 v6 v5) fun v7 => .op (.len 0 v7) fun v8 => .loop [AV.nils, AV.int .i64 0] (fun vs9 => .op (.bin 0 .lss (g vs9 1) v8) fun v11 => .ite v11 (.op (.idx 3 v7 (g vs9 1)) fun v12 => .op (.ldn 3 v12) fun v13 => .op (.alloc [AV.int .i64 0, AV.int .i64 0, AV.int .i64 0]) fun v14 => .op (.st 3 v14 v13) fun v15 => .op (.fad 0 v14) fun v16 => .op (.ld1 v16) fun v17 => .op (.bslice 1 1 [AV.int .i64 0] [(0, 1, v17)]) fun v18 => .op (.app 1 8 (g vs9 0) v18) fun v19 => .op (.bin 0 .add (g vs9 1) (AV.int .i64 1)) fun v20 => .leaf 0 [v19, v20]) (.leaf 2 [g vs9 0, g vs9 1])) fun t10 vs9 => tsel t10 1 (.leaf 1 vs9) (tsel t10 2 (.op (.fad 20 v1) fun v21 => .op (.ld1 v21) fun v22 => .op (.len 0 v22) fun v23 => .loop [g vs9 0, AV.int .i64 0] (fun vs24 => .op (.bin 0 .lss (g vs24 1) v23) fun v26 => .ite v26 (.op (.idx 3 v22 (g vs24 1)) fun v27 => .op (.ldn 3 v27) fun v28 => .op (.alloc [AV.int .i64 0, AV.int .i64 0, AV.bool false]) fun v29 => .op (.st 3 v29 v28) fun v30 => .op (.fad 1 v29) fun v31 => .op (.ld1 v31) fun v32 => .op (.bslice 1 1 [AV.int .i64 0] [(0, 1, v32)]) fun v33 => .op (.app 1 8 (g vs24 0) v33) fun v34 => .op (.bin 0 .add (g vs24 1) (AV.int .i64 1)) fun v35 => .leaf 0 [v34, v35]) (.leaf 4 [g vs24 0, g vs24 1])) fun t25 vs24 => tsel t25 1 (.leaf 1 vs24) (tsel t25 4 (.op (.fad 29 v1) fun v36 => .op (.ld1 v36) fun v37 => .op (.len 0 v37) fun v38 => .loop [g vs24 0, v7, AV.int .i64 0] (fun vs39 => .op (.bin 0 .lss (g vs39 2) v38) fun v41 => .ite v41 (.op (.idx 12 v37 (g vs39 2)) fun v42 => .op (.ldn 12 v42) fun v43 => .op (.alloc z12_f83) fun v44 => .op (.st 12 v44 v43) fun v45 => .op (.fad 9 v44) fun v46 => q_impl_stampsOk_1 v46 vs39 v44) (.leaf 6 [g vs39 0, g vs39 1, g vs39 2])) fun t40 vs39 => tsel t40 1 (.leaf 1 vs39) (tsel t40 6 (.op (.fad 14 v1) fun v67 => .op (.ld1 v67) fun v68 => .op (.call n_impl_allTrails [v68]) fun v69 => .op (.len 0 v69) fun v70 => .loop [g vs39 0, AV.int .i64 0] (fun vs71 => .op (.bin 0 .lss (g vs71 1) v70) fun v73 => .ite v73 (.op (.idx 4 v69 (g vs71 1)) fun v74 => q_impl_stampsOk_2 v74 vs71 vs39) (.leaf 8 [g vs71 0, g vs71 1])) fun t72 vs71 => tsel t72 1 (.leaf 1 vs71) (tsel t72 8 (.op (.mkfn n_impl_stampsOk_2 [v1]) fun v86 => .op (.call n_slices_ContainsFunc_int [g vs71 0, v86]) fun v87 => .op (.una .not v87) fun v88 => .fin [.val v88]) .bad)) .bad)) .bad)) .bad))
theorem c_impl_stampsOk (x0 : AV) : CC Tryz.prog n_impl_stampsOk [x0] (p_impl_stampsOk x0) := cc Tryz.func66 [1, 3, 4, 19, 20, 21, 32, 33, 34, 45, 46, 47, 75, 76, 77] (fun r => if r = 2 then [(0, []), (1, []), (3, []), (4, []), (2, [4]), (5, []), (6, [])] else []) (by kernel_rfl)
end
def isTm (id stamp : Int) (t : Ab.Timer) : Bool := decide (t.id = stamp ∧ t.trace = id)
theorem s_stampsOk_1 {h : AH} {b : Nat} {t : Trail} {v : AV} (a : At h b 0 (t.cs v)) : Looks Ab.Timer Tryz.prog h n_impl_stampsOk_1 [.ptr b 0] (isTm t.id t.stamp) := by
  rintro y cs F ⟨rfl, rfl⟩
  refine reader (c_impl_stampsOk_1 _ _) (by simp only [old]) ?_
  unfold p_impl_stampsOk_1
  (repeat' first|refine vs ?_|(refine br ?_ ?_<;>intro _<;>try(exfalso;first|omega|contradiction))|((with_reducible refine g_idx ?_);((first|refine ix ?_|refine ixi ?_|(refine ixg ?_;intro _ _)|(refine ixgi ?_;intro _ _));first|rintro _ _ _ _ _ ⟨rfl,rfl⟩ _|rintro _ _ _ _ _ ⟨_,rfl,_⟩ _|rintro _ _ _ _ _ ⟨_,_,_,_,rfl,rfl,_,_⟩ _|intro _ _ _ _ _ _ _))|(refine sx ?_;intro _ _)|((with_reducible refine g_awp ?_);simp only [g0,g1,g2]))
  all_goals (refine pb ?_; simp [isTm]; omega)
theorem s_slices_ContainsFunc_Timer {h : AH} {xs : List Ab.Timer} {x0 : AV} {F : List Nat} {f : FuncId} {caps : List AV} {p : Ab.Timer → Bool} (r : SlRep h x0 xs F) (hf : Looks Ab.Timer Tryz.prog h f caps p) :
    RCalls Tryz.prog n_slices_ContainsFunc_Timer [x0, .fn f caps] h (.bool (bp (∃ x ∈ xs, p x = true))) := by
  refine reader (c_slices_ContainsFunc_Timer _ _) (by simp only [old]) ?_
  unfold p_slices_ContainsFunc_Timer
  (repeat' first|refine vs ?_|(refine br ?_ ?_<;>intro _<;>try(exfalso;first|omega|contradiction))|((with_reducible refine g_callf n_slices_IndexFunc_Timer ?_);refine aw_rcall (s_slices_IndexFunc_Timer slr_auto hf) ?_)|((with_reducible refine g_idx ?_);((first|refine ix ?_|refine ixi ?_|(refine ixg ?_;intro _ _)|(refine ixgi ?_;intro _ _));first|rintro _ _ _ _ _ ⟨rfl,rfl⟩ _|rintro _ _ _ _ _ ⟨_,rfl,_⟩ _|rintro _ _ _ _ _ ⟨_,_,_,_,rfl,rfl,_,_⟩ _|intro _ _ _ _ _ _ _))|(refine sx ?_;intro _ _)|((with_reducible refine g_awp ?_);simp only [g0,g1,g2]))
  · exact pt (idx_ge.1 (by assumption))
  · exact pf fun k => absurd (idx_ge.2 k) (by assumption)
theorem s_stampsOk_2 {h : AH} {b : Nat} {x : Wld} {v0 v1 v2 v3 v4 v5 v6 v7 v8 v9 v10 : AV} {n : Int} (a : At h b 0 (x.cs v0 v1 v2 v3 v4 v5 v6 v7 v8 v9 v10)) : RCalls Tryz.prog n_impl_stampsOk_2 [.int .i64 n, .ptr b 0] h (.bool (decide (n ≥ x.next))) := by
  refine reader (c_impl_stampsOk_2 _ _) (by simp only [old]) ?_
  unfold p_impl_stampsOk_2
  (repeat' first|refine vs ?_|(refine br ?_ ?_<;>intro _<;>try(exfalso;first|omega|contradiction))|((with_reducible refine g_idx ?_);((first|refine ix ?_|refine ixi ?_|(refine ixg ?_;intro _ _)|(refine ixgi ?_;intro _ _));first|rintro _ _ _ _ _ ⟨rfl,rfl⟩ _|rintro _ _ _ _ _ ⟨_,rfl,_⟩ _|rintro _ _ _ _ _ ⟨_,_,_,_,rfl,rfl,_,_⟩ _|intro _ _ _ _ _ _ _))|(refine sx ?_;intro _ _)|((with_reducible refine g_awp ?_);simp only [g0,g1,g2]))
  all_goals (refine pb ?_; simp; omega)
theorem s_slices_IndexFunc_int {h : AH} {xs : List Int} {x0 : AV} {F : List Nat} {f : FuncId} {caps : List AV} {p : Int → Bool} (r : SlRep h x0 xs F) (hf : ∀ n, RCalls Tryz.prog f (.int .i64 n :: caps) h (.bool (p n))) :
    RCalls Tryz.prog n_slices_IndexFunc_int [x0, .fn f caps] h (.int .i64 (idx p xs)) := by
  refine reader (c_slices_IndexFunc_int _ _) (by simp only [old]) ?_
  unfold p_slices_IndexFunc_int
  have hsm := r.small
  refine aw_len r ?_
  refine aw_upto xs.length (fun i vs h1 => vs = [.int .i64 (i : Int)] ∧ i ≤ xs.length ∧ h1 = h ∧ ∀ j y, j < i → xs[j]? = some y → p y = false) ⟨rfl, Nat.zero_le _, rfl, fun j y hj => by omega⟩ ?_
  rintro i vs h1 _ ⟨rfl, hi, rfl, hn⟩
  simp only [g0]
  refine br (fun hlt => ?_) (fun hge => ?_)
  · obtain ⟨x, hx, -, htk⟩ := drop_step (show i < xs.length by omega)
    refine aw_ite_t (aw_idx r hx rfl ?_)
    rintro bb o _ Fi a ⟨rfl, rfl⟩ _
    refine aw_ld1_at a (Ext.refl _) (aw_rcallv (hf x) (aw_ite ?_ ?_))
    · intro hp
      exact aw_fin1 (pi (by rw [idx_at hx hp hn]))
    · intro hp
      (repeat' first|refine vs ?_|(refine br ?_ ?_<;>intro _<;>try(exfalso;first|omega|contradiction))|((with_reducible refine g_idx ?_);((first|refine ix ?_|refine ixi ?_|(refine ixg ?_;intro _ _)|(refine ixgi ?_;intro _ _));first|rintro _ _ _ _ _ ⟨rfl,rfl⟩ _|rintro _ _ _ _ _ ⟨_,rfl,_⟩ _|rintro _ _ _ _ _ ⟨_,_,_,_,rfl,rfl,_,_⟩ _|intro _ _ _ _ _ _ _))|(refine sx ?_;intro _ _)|((with_reducible refine g_awp ?_);simp only [g0,g1,g2]))
      refine ⟨by omega, rfl, by omega, rfl, fun j y hj hy => ?_⟩
      by_cases e : j = i
      · subst e; rw [hx] at hy; cases hy; exact hp
      · exact hn j y (by omega) hy
  · have e : i = xs.length := by omega
    subst e
    (repeat' first|refine vs ?_|(refine br ?_ ?_<;>intro _<;>try(exfalso;first|omega|contradiction))|((with_reducible refine g_idx ?_);((first|refine ix ?_|refine ixi ?_|(refine ixg ?_;intro _ _)|(refine ixgi ?_;intro _ _));first|rintro _ _ _ _ _ ⟨rfl,rfl⟩ _|rintro _ _ _ _ _ ⟨_,rfl,_⟩ _|rintro _ _ _ _ _ ⟨_,_,_,_,rfl,rfl,_,_⟩ _|intro _ _ _ _ _ _ _))|(refine sx ?_;intro _ _)|((with_reducible refine g_awp ?_);simp only [g0,g1,g2]))
    exact pi (idx_no hn).symm
theorem s_slices_ContainsFunc_int {h : AH} {xs : List Int} {x0 : AV} {F : List Nat} {f : FuncId} {caps : List AV} {p : Int → Bool} (r : SlRep h x0 xs F) (hf : ∀ n, RCalls Tryz.prog f (.int .i64 n :: caps) h (.bool (p n))) :
    RCalls Tryz.prog n_slices_ContainsFunc_int [x0, .fn f caps] h (.bool (bp (∃ x ∈ xs, p x = true))) := by
  refine reader (c_slices_ContainsFunc_int _ _) (by simp only [old]) ?_
  unfold p_slices_ContainsFunc_int
  (repeat' first|refine vs ?_|(refine br ?_ ?_<;>intro _<;>try(exfalso;first|omega|contradiction))|((with_reducible refine g_callf n_slices_IndexFunc_int ?_);refine aw_rcall (s_slices_IndexFunc_int slr_auto hf) ?_)|((with_reducible refine g_idx ?_);((first|refine ix ?_|refine ixi ?_|(refine ixg ?_;intro _ _)|(refine ixgi ?_;intro _ _));first|rintro _ _ _ _ _ ⟨rfl,rfl⟩ _|rintro _ _ _ _ _ ⟨_,rfl,_⟩ _|rintro _ _ _ _ _ ⟨_,_,_,_,rfl,rfl,_,_⟩ _|intro _ _ _ _ _ _ _))|(refine sx ?_;intro _ _)|((with_reducible refine g_awp ?_);simp only [g0,g1,g2]))
  · exact pt (idx_ge.1 (by assumption))
  · exact pf fun k => absurd (idx_ge.2 k) (by assumption)
end Go.Proofs.YtideefohbkhhhaaGreat
