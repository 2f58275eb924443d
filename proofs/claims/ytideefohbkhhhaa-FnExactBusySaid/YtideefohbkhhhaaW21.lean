/- Worlds: the time, and how many are busy. -/
import Derived.Test.YtideefohbkhhhaaNm
import Derived.Test.YtideefohbkhhhaaK4
set_option linter.unusedSimpArgs false
set_option linter.unusedVariables false
set_option maxHeartbeats 4000000
namespace Go.Proofs.Ytideefohbkhhhaa
open Go Go.Ab
section
/- impl.TimeOf -/
def p_impl_TimeOf (x0 : AV) : Prog := .op (.box x0) fun v1 => .op (.fad 22 v1) fun v2 => .op (.fad 0 v2) fun v3 => .op (.ld1 v3) fun v4 => .fin [.val v4]
theorem c_impl_TimeOf (x0 : AV) : CC Try.prog n_impl_TimeOf [x0] (p_impl_TimeOf x0) := cc Try.func9 [] (fun _ => []) (by kernel_rfl)
/- spec.TimeOf -/
def p_spec_TimeOf (x0 : AV) : Prog := .op (.box x0) fun v1 => .op (.fad 22 v1) fun v2 => .op (.fad 0 v2) fun v3 => .op (.ld1 v3) fun v4 => .fin [.val v4]
theorem c_spec_TimeOf (x0 : AV) : CC Try.prog n_spec_TimeOf [x0] (p_spec_TimeOf x0) := cc Try.func7 [] (fun _ => []) (by kernel_rfl)
/- impl.Busy -/
def p_impl_Busy (x0 : AV) : Prog := .op (.box x0) fun v1 => .op (.fad 29 v1) fun v2 => .op (.ld1 v2) fun v3 => .op (.len 0 v3) fun v4 => .loop [AV.int .i64 0, AV.int .i64 0] (fun vs5 => .op (.bin 0 .lss (g vs5 1) v4) fun v7 => .ite v7 (.op (.idx 12 v3 (g vs5 1)) fun v8 => .op (.ldn 12 v8) fun v9 => .op (.alloc z12_f83) fun v10 => .op (.st 12 v10 v9) fun v11 => .op (.fad 0 v10) fun v12 => .op (.ld1 v12) fun v13 => .op (.bin 0 .neq v13 (AV.int .i64 0)) fun v14 => .scope (.ite v14 (.op (.bin 0 .add (g vs5 0) (AV.int .i64 1)) fun v15 => .leaf 0 [v15]) (.leaf 0 [g vs5 0])) (fun vs16 => .op (.bin 0 .add (g vs5 1) (AV.int .i64 1)) fun v18 => .leaf 0 [g vs16 0, v18]) fun t17 vs16 => tsel t17 1 (.leaf 1 vs16) .bad) (.leaf 2 [g vs5 0, g vs5 1])) fun t6 vs5 => tsel t6 1 (.leaf 1 vs5) (tsel t6 2 (.fin [.val (g vs5 0)]) .bad)
theorem c_impl_Busy (x0 : AV) : CC Try.prog n_impl_Busy [x0] (p_impl_Busy x0) := cc Try.func12 [3, 7, 8, 9] (fun _ => []) (by kernel_rfl)
/- spec.Busy -/
def p_spec_Busy (x0 : AV) : Prog := .op (.box x0) fun v1 => .loop [AV.int .i64 0, AV.int .i64 0] (fun vs2 => .op (.fad 29 v1) fun v4 => .op (.ld1 v4) fun v5 => .op (.len 0 v5) fun v6 => .op (.bin 0 .lss (g vs2 1) v6) fun v7 => .ite v7 (.op (.fad 29 v1) fun v8 => .op (.ld1 v8) fun v9 => .op (.idx 12 v9 (g vs2 1)) fun v10 => .op (.fad 0 v10) fun v11 => .op (.ld1 v11) fun v12 => .op (.bin 0 .neq v12 (AV.int .i64 0)) fun v13 => .scope (.ite v13 (.op (.bin 0 .add (g vs2 0) (AV.int .i64 1)) fun v14 => .leaf 0 [v14]) (.leaf 0 [g vs2 0])) (fun vs15 => .op (.bin 0 .add (g vs2 1) (AV.int .i64 1)) fun v17 => .leaf 0 [g vs15 0, v17]) fun t16 vs15 => tsel t16 1 (.leaf 1 vs15) .bad) (.leaf 2 [g vs2 0, g vs2 1])) fun t3 vs2 => tsel t3 1 (.leaf 1 vs2) (tsel t3 2 (.fin [.val (g vs2 0)]) .bad)
theorem c_spec_Busy (x0 : AV) : CC Try.prog n_spec_Busy [x0] (p_spec_Busy x0) := cc Try.func11 [1, 3, 4] (fun _ => []) (by kernel_rfl)
end
theorem s_impl_TimeOf {h : AH} {x : Wld} {cs : List AV} {F : List Nat} (r : Cel.rep h x cs F) : RCalls Try.prog n_impl_TimeOf [.agg cs] h (.int .i64 x.w.now) := by
  obtain ⟨v0, v1, v2, v3, v4, v5, v6, v7, v8, v9, v10, F0, F1, F2, F3, F4, F5, F6, F7, F8, F9, F10, rfl, rfl, r0, r1, r2, r3, r4, r5, r6, r7, r8, r9, r10⟩ := r
  refine reader (c_impl_TimeOf _) (by simp only [old]) ?_
  unfold p_impl_TimeOf
  (repeat' first|refine vs ?_|(refine br ?_ ?_<;>intro _<;>try(exfalso;first|omega|contradiction))|((with_reducible refine g_idx ?_);((first|refine ix ?_|refine ixi ?_|(refine ixg ?_;intro _ _)|(refine ixgi ?_;intro _ _));first|rintro _ _ _ _ _ ⟨rfl,rfl⟩ _|rintro _ _ _ _ _ ⟨_,rfl,_⟩ _|rintro _ _ _ _ _ ⟨_,_,_,_,rfl,rfl,_,_⟩ _|intro _ _ _ _ _ _ _))|(refine sx ?_;intro _ _)|((with_reducible refine g_awp ?_);simp only [g0,g1,g2]))
  exact pi rfl
theorem s_spec_TimeOf {h : AH} {x : Wld} {cs : List AV} {F : List Nat} (r : Cel.rep h x cs F) : RCalls Try.prog n_spec_TimeOf [.agg cs] h (.int .i64 x.w.now) := by
  obtain ⟨v0, v1, v2, v3, v4, v5, v6, v7, v8, v9, v10, F0, F1, F2, F3, F4, F5, F6, F7, F8, F9, F10, rfl, rfl, r0, r1, r2, r3, r4, r5, r6, r7, r8, r9, r10⟩ := r
  refine reader (c_spec_TimeOf _) (by simp only [old]) ?_
  unfold p_spec_TimeOf
  (repeat' first|refine vs ?_|(refine br ?_ ?_<;>intro _<;>try(exfalso;first|omega|contradiction))|((with_reducible refine g_idx ?_);((first|refine ix ?_|refine ixi ?_|(refine ixg ?_;intro _ _)|(refine ixgi ?_;intro _ _));first|rintro _ _ _ _ _ ⟨rfl,rfl⟩ _|rintro _ _ _ _ _ ⟨_,rfl,_⟩ _|rintro _ _ _ _ _ ⟨_,_,_,_,rfl,rfl,_,_⟩ _|intro _ _ _ _ _ _ _))|(refine sx ?_;intro _ _)|((with_reducible refine g_awp ?_);simp only [g0,g1,g2]))
  exact pi rfl
/-- How many tasks are at work. -/
def busyN : List Task → Nat
  | [] => 0
  | t :: l => (if t.op ≠ 0 then 1 else 0) + busyN l
theorem busy_app : ∀ l m : List Task, busyN (l ++ m) = busyN l + busyN m
  | [], m => by simp [busyN]
  | t :: l, m => by simp only [List.cons_append, busyN, busy_app l m]; omega
theorem busy_s {l : List Task} {i : Nat} {t : Task} (ht : l.take (i + 1) = l.take i ++ [t]) : busyN (l.take (i + 1)) = busyN (l.take i) + (if t.op ≠ 0 then 1 else 0) := by rw [ht, busy_app]; simp [busyN]
theorem busy_le : ∀ l : List Task, busyN l ≤ l.length
  | [] => by simp [busyN]
  | t :: l => by have := busy_le l; simp only [busyN, List.length_cons]; split <;> omega
theorem s_impl_Busy {h : AH} {x : Wld} {cs : List AV} {F : List Nat} (r : Cel.rep h x cs F) : RCalls Try.prog n_impl_Busy [.agg cs] h (.int .i64 (busyN x.tasks : Nat)) := by
  obtain ⟨v0, v1, v2, v3, v4, v5, v6, v7, v8, v9, v10, F0, F1, F2, F3, F4, F5, F6, F7, F8, F9, F10, rfl, rfl, r0, r1, r2, r3, r4, r5, r6, r7, r8, r9, r10⟩ := r
  refine reader (c_impl_Busy _) (by simp only [old]) ?_
  unfold p_impl_Busy
  have hl9 := r9.small
  (repeat' first|refine vs ?_|(refine br ?_ ?_<;>intro _<;>try(exfalso;first|omega|contradiction))|((with_reducible refine g_idx ?_);((first|refine ix ?_|refine ixi ?_|(refine ixg ?_;intro _ _)|(refine ixgi ?_;intro _ _));first|rintro _ _ _ _ _ ⟨rfl,rfl⟩ _|rintro _ _ _ _ _ ⟨_,rfl,_⟩ _|rintro _ _ _ _ _ ⟨_,_,_,_,rfl,rfl,_,_⟩ _|intro _ _ _ _ _ _ _))|(refine sx ?_;intro _ _)|((with_reducible refine g_awp ?_);simp only [g0,g1,g2]))
  refine aw_upto x.tasks.length (fun i vs h1 => vs = [.int .i64 (busyN (x.tasks.take i) : Nat), .int .i64 (i : Int)] ∧ i ≤ x.tasks.length ∧ Ext (h.push ⟨(x.cs v0 v1 v2 v3 v4 v5 v6 v7 v8 v9 v10), 0, 0⟩) h1) ⟨rfl, Nat.zero_le _, ext_auto⟩ ?_
  rintro i vs h1 _ ⟨rfl, hi, e1⟩
  have n1 := e1.1
  simp only [push_n] at n1
  have hb := busy_le (x.tasks.take i)
  rw [List.length_take] at hb
  simp only [g0, g1]
  refine br (fun hlt => ?_) (fun hge => ?_)
  · obtain ⟨t, hx, -, htk⟩ := drop_step (show i < x.tasks.length by omega)
    have hs := busy_s htk
    (repeat' first|refine vs ?_|(refine br ?_ ?_<;>intro _<;>try(exfalso;first|omega|contradiction))|((with_reducible refine g_idx ?_);((first|refine ix ?_|refine ixi ?_|(refine ixg ?_;intro _ _)|(refine ixgi ?_;intro _ _));first|rintro _ _ _ _ _ ⟨rfl,rfl⟩ _|rintro _ _ _ _ _ ⟨_,rfl,_⟩ _|rintro _ _ _ _ _ ⟨_,_,_,_,rfl,rfl,_,_⟩ _|intro _ _ _ _ _ _ _))|(refine sx ?_;intro _ _)|((with_reducible refine g_awp ?_);simp only [g0,g1,g2]))
    · rename_i hne
      rw [if_pos hne] at hs
      exact ⟨by omega, by rw [hs]; rfl, by omega, ext_auto⟩
    · rename_i he
      rw [if_neg (by simpa using he)] at hs
      exact ⟨by omega, by rw [hs]; rfl, by omega, ext_auto⟩
  · have e : i = x.tasks.length := by omega
    rw [e, List.take_length]
    (repeat' first|refine vs ?_|(refine br ?_ ?_<;>intro _<;>try(exfalso;first|omega|contradiction))|((with_reducible refine g_idx ?_);((first|refine ix ?_|refine ixi ?_|(refine ixg ?_;intro _ _)|(refine ixgi ?_;intro _ _));first|rintro _ _ _ _ _ ⟨rfl,rfl⟩ _|rintro _ _ _ _ _ ⟨_,rfl,_⟩ _|rintro _ _ _ _ _ ⟨_,_,_,_,rfl,rfl,_,_⟩ _|intro _ _ _ _ _ _ _))|(refine sx ?_;intro _ _)|((with_reducible refine g_awp ?_);simp only [g0,g1,g2]))
    exact pi rfl
theorem s_spec_Busy {h : AH} {x : Wld} {cs : List AV} {F : List Nat} (r : Cel.rep h x cs F) : RCalls Try.prog n_spec_Busy [.agg cs] h (.int .i64 (busyN x.tasks : Nat)) := by
  obtain ⟨v0, v1, v2, v3, v4, v5, v6, v7, v8, v9, v10, F0, F1, F2, F3, F4, F5, F6, F7, F8, F9, F10, rfl, rfl, r0, r1, r2, r3, r4, r5, r6, r7, r8, r9, r10⟩ := r
  refine reader (c_spec_Busy _) (by simp only [old]) ?_
  unfold p_spec_Busy
  have hl9 := r9.small
  (repeat' first|refine vs ?_|(refine br ?_ ?_<;>intro _<;>try(exfalso;first|omega|contradiction))|((with_reducible refine g_idx ?_);((first|refine ix ?_|refine ixi ?_|(refine ixg ?_;intro _ _)|(refine ixgi ?_;intro _ _));first|rintro _ _ _ _ _ ⟨rfl,rfl⟩ _|rintro _ _ _ _ _ ⟨_,rfl,_⟩ _|rintro _ _ _ _ _ ⟨_,_,_,_,rfl,rfl,_,_⟩ _|intro _ _ _ _ _ _ _))|(refine sx ?_;intro _ _)|((with_reducible refine g_awp ?_);simp only [g0,g1,g2]))
  refine aw_upto x.tasks.length (fun i vs h1 => vs = [.int .i64 (busyN (x.tasks.take i) : Nat), .int .i64 (i : Int)] ∧ i ≤ x.tasks.length ∧ Ext (h.push ⟨(x.cs v0 v1 v2 v3 v4 v5 v6 v7 v8 v9 v10), 0, 0⟩) h1) ⟨rfl, Nat.zero_le _, ext_auto⟩ ?_
  rintro i vs h1 _ ⟨rfl, hi, e1⟩
  have n1 := e1.1
  simp only [push_n] at n1
  have hb := busy_le (x.tasks.take i)
  rw [List.length_take] at hb
  simp only [g0, g1]
  refine vs ?_
  refine br (fun hlt => ?_) (fun hge => ?_)
  · obtain ⟨t, hx, -, htk⟩ := drop_step (show i < x.tasks.length by omega)
    have hs := busy_s htk
    (repeat' first|refine vs ?_|(refine br ?_ ?_<;>intro _<;>try(exfalso;first|omega|contradiction))|((with_reducible refine g_idx ?_);((first|refine ix ?_|refine ixi ?_|(refine ixg ?_;intro _ _)|(refine ixgi ?_;intro _ _));first|rintro _ _ _ _ _ ⟨rfl,rfl⟩ _|rintro _ _ _ _ _ ⟨_,rfl,_⟩ _|rintro _ _ _ _ _ ⟨_,_,_,_,rfl,rfl,_,_⟩ _|intro _ _ _ _ _ _ _))|(refine sx ?_;intro _ _)|((with_reducible refine g_awp ?_);simp only [g0,g1,g2]))
    · rename_i hne
      rw [if_pos hne] at hs
      exact ⟨by omega, by rw [hs]; rfl, by omega, ext_auto⟩
    · rename_i he
      rw [if_neg (by simpa using he)] at hs
      exact ⟨by omega, by rw [hs]; rfl, by omega, ext_auto⟩
  · have e : i = x.tasks.length := by omega
    rw [e, List.take_length]
    (repeat' first|refine vs ?_|(refine br ?_ ?_<;>intro _<;>try(exfalso;first|omega|contradiction))|((with_reducible refine g_idx ?_);((first|refine ix ?_|refine ixi ?_|(refine ixg ?_;intro _ _)|(refine ixgi ?_;intro _ _));first|rintro _ _ _ _ _ ⟨rfl,rfl⟩ _|rintro _ _ _ _ _ ⟨_,rfl,_⟩ _|rintro _ _ _ _ _ ⟨_,_,_,_,rfl,rfl,_,_⟩ _|intro _ _ _ _ _ _ _))|(refine sx ?_;intro _ _)|((with_reducible refine g_awp ?_);simp only [g0,g1,g2]))
    exact pi rfl
end Go.Proofs.Ytideefohbkhhhaa
