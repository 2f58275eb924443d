
/- New wheels and buckets; copies of wheels by the reference. -/
import Derived.Test.YtideefohbkhhhaaW36
import Derived.Test.YtideefohbkhhhaaAb46
set_option linter.unusedSimpArgs false
set_option linter.unusedVariables false
set_option maxHeartbeats 2000000
namespace Go.Proofs.Ytideefohbkhhhaa
open Go Go.Ab
section
/- impl.WheelNew -/
def p_impl_WheelNew : Prog := .op (.alloc [AV.int .i64 0, AV.nils, AV.nils, AV.nils]) fun v1 => .op (.mksl 1 24 [AV.nils] (AV.int .i64 8) (AV.int .i64 8)) fun v2 => .op (.mksl 1 24 [AV.nils] (AV.int .i64 8) (AV.int .i64 8)) fun v3 => .op (.build [AV.int .i64 0, AV.nils, AV.nils, AV.nils] [(1, 1, v2), (2, 1, v3)]) fun v4 => .op (.st 4 v1 v4) fun v5 => .fin [.cn 4 v1]
theorem c_impl_WheelNew : CC Try.prog n_impl_WheelNew [] (p_impl_WheelNew) := cc Try.func53 [] (fun r => if r = 1 then [(0, []), (1, []), (2, []), (3, [])] else []) (by kernel_rfl)
/- spec.WheelNew -/
def p_spec_WheelNew : Prog := .op (.alloc [AV.int .i64 0, AV.nils, AV.nils, AV.nils]) fun v1 => .op (.build [AV.int .i64 0, AV.nils, AV.nils, AV.nils] []) fun v2 => .op (.alloc [AV.int .i64 0, AV.nils, AV.nils, AV.nils]) fun v3 => .op (.st 4 v3 v2) fun v4 => .loop [AV.int .i64 0] (fun vs5 => .op (.bin 0 .lss (g vs5 0) (AV.int .i64 8)) fun v7 => .ite v7 (.op (.fad 1 v3) fun v8 => .op (.ld1 v8) fun v9 => .op (.bslice 3 0 [] []) fun v10 => .op (.bslice 1 1 [AV.nils] [(0, 1, v10)]) fun v11 => .op (.app 1 24 v9 v11) fun v12 => .op (.fad 1 v3) fun v13 => .op (.st 1 v13 v12) fun v14 => .op (.fad 2 v3) fun v15 => .op (.ld1 v15) fun v16 => .op (.bslice 3 0 [] []) fun v17 => .op (.bslice 1 1 [AV.nils] [(0, 1, v17)]) fun v18 => .op (.app 1 24 v16 v18) fun v19 => .op (.fad 2 v3) fun v20 => .op (.st 1 v20 v19) fun v21 => .op (.bin 0 .add (g vs5 0) (AV.int .i64 1)) fun v22 => .leaf 0 [v22]) (.leaf 2 [g vs5 0])) fun t6 vs5 => tsel t6 1 (.leaf 1 vs5) (tsel t6 2 (.op (.ldn 4 v3) fun v23 => .op (.st 4 v1 v23) fun v24 => .fin [.cn 4 v1]) .bad)
theorem c_spec_WheelNew : CC Try.prog n_spec_WheelNew [] (p_spec_WheelNew) := cc Try.func48 [0, 1, 2] (fun _ => []) (by kernel_rfl)
/- impl.BucketNew -/
def p_impl_BucketNew (x0 x1 : AV) : Prog := .op (.alloc [AV.int .i64 0, AV.int .i64 0, AV.int .i64 0, AV.int .i64 0]) fun v1 => .op (.build [AV.int .i64 0, AV.int .i64 0, AV.int .i64 0, AV.int .i64 0] [(0, 1, x0), (1, 1, x1), (2, 1, x1)]) fun v2 => .op (.st 4 v1 v2) fun v3 => .fin [.cn 4 v1]
theorem c_impl_BucketNew (x0 x1 : AV) : CC Try.prog n_impl_BucketNew [x0, x1] (p_impl_BucketNew x0 x1) := cc Try.func52 [] (fun _ => []) (by kernel_rfl)
/- spec.BucketNew -/
def p_spec_BucketNew (x0 x1 : AV) : Prog := .op (.alloc [AV.int .i64 0, AV.int .i64 0, AV.int .i64 0, AV.int .i64 0]) fun v1 => .op (.build [AV.int .i64 0, AV.int .i64 0, AV.int .i64 0, AV.int .i64 0] [(0, 1, x0), (1, 1, x1), (2, 1, x1)]) fun v2 => .op (.st 4 v1 v2) fun v3 => .fin [.cn 4 v1]
theorem c_spec_BucketNew (x0 x1 : AV) : CC Try.prog n_spec_BucketNew [x0, x1] (p_spec_BucketNew x0 x1) := cc Try.func47 [] (fun _ => []) (by kernel_rfl)
end
/-- A new value, handed back. -/
def NewX (α : Type) [Cel α] (h : AH) (x : α) : AV → AH → Prop := fun u h' => Ext h h' ∧ ∃ cs F, u = .agg cs ∧ Cel.rep h' x cs F ∧ Own h.n h' F
theorem reps_rep {α : Type} [Cel α] {h : AH} {a : α} {cs : List AV} (r : Cel.rep h a cs []) : ∀ n, Reps h (List.replicate n a) (List.replicate n cs).flatten []
  | 0 => ⟨rfl, rfl⟩
  | n + 1 => ⟨cs, (List.replicate n cs).flatten, [], [], by simp [List.replicate_succ], rfl, r, reps_rep r n⟩
def wheelNew : Wheel := ⟨0, List.replicate 8 [], List.replicate 8 [], []⟩
theorem nils8 {h : AH} : SlRep (h.push ⟨(List.replicate 8 [AV.nils]).flatten, 1, 0⟩) (.sl h.n 0 8) (List.replicate 8 ([] : List Ab.Timer)) [h.n] ∧ ∀ n, n ≤ h.n → Own n (h.push ⟨(List.replicate 8 [AV.nils]).flatten, 1, 0⟩) [h.n] :=
  ⟨slrep_push (n := 8) (by simp) (by decide) (reps_rep (show Cel.rep h ([] : List Ab.Timer) [.nils] [] from ⟨.nils, rfl, SlRep.nils⟩) 8), fun n hn => own_push hn rfl (by simp) Own.nil⟩
theorem s_impl_WheelNew {h : AH} : ACalls Try.prog n_impl_WheelNew [] h (NewX Wheel h wheelNew) := by
  refine c_impl_WheelNew ?_
  unfold p_impl_WheelNew
  (repeat' first|refine vs ?_|(refine br ?_ ?_<;>intro _<;>try(exfalso;first|omega|contradiction))|((with_reducible refine g_idx ?_);((first|refine ix ?_|refine ixi ?_|(refine ixg ?_;intro _ _)|(refine ixgi ?_;intro _ _));first|rintro _ _ _ _ _ ⟨rfl,rfl⟩ _|rintro _ _ _ _ _ ⟨_,rfl,_⟩ _|rintro _ _ _ _ _ ⟨_,_,_,_,rfl,rfl,_,_⟩ _|intro _ _ _ _ _ _ _))|(refine sx ?_;intro _ _)|((with_reducible refine g_awp ?_);simp only [g0,g1,g2]))
  refine aw_mksl (n := 8) (by decide) ?_
  refine aw_mksl (n := 8) (by decide) ?_
  (repeat' first|refine vs ?_|(refine br ?_ ?_<;>intro _<;>try(exfalso;first|omega|contradiction))|((with_reducible refine g_idx ?_);((first|refine ix ?_|refine ixi ?_|(refine ixg ?_;intro _ _)|(refine ixgi ?_;intro _ _));first|rintro _ _ _ _ _ ⟨rfl,rfl⟩ _|rintro _ _ _ _ _ ⟨_,rfl,_⟩ _|rintro _ _ _ _ _ ⟨_,_,_,_,rfl,rfl,_,_⟩ _|intro _ _ _ _ _ _ _))|(refine sx ?_;intro _ _)|((with_reducible refine g_awp ?_);simp only [g0,g1,g2]))
  refine ⟨rfl, _, rfl, ext_auto, _, _, rfl, ⟨_, _, _, [h.n + 1], [h.n + 1 + 1], [], rfl, rfl, slr_push1 nils8.1, nils8.1, SlRep.nils⟩, by simp, fun b hb => ?_⟩
  simp at hb
  rcases hb with rfl | rfl <;> simp <;> omega
theorem s_spec_WheelNew {h : AH} : ACalls Try.prog n_spec_WheelNew [] h (NewX Wheel h wheelNew) := by
  refine c_spec_WheelNew ?_
  unfold p_spec_WheelNew
  (repeat' first|refine vs ?_|(refine br ?_ ?_<;>intro _<;>try(exfalso;first|omega|contradiction))|((with_reducible refine g_idx ?_);((first|refine ix ?_|refine ixi ?_|(refine ixg ?_;intro _ _)|(refine ixgi ?_;intro _ _));first|rintro _ _ _ _ _ ⟨rfl,rfl⟩ _|rintro _ _ _ _ _ ⟨_,rfl,_⟩ _|rintro _ _ _ _ _ ⟨_,_,_,_,rfl,rfl,_,_⟩ _|intro _ _ _ _ _ _ _))|(refine sx ?_;intro _ _)|((with_reducible refine g_awp ?_);simp only [g0,g1,g2]))
  refine aw_upto 8 (fun i vs h1 => ∃ u1 u2 G1 G2, vs = [.int .i64 (i : Int)] ∧ i ≤ 8 ∧ Bk h1 (h.n + 1) [.int .i64 0, u1, u2, .nils] 0 ∧ Bk h1 h.n [AV.int .i64 0, AV.nils, AV.nils, AV.nils] 0 ∧ Ext h h1 ∧ h.n + 1 + 1 ≤ h1.n ∧ SlRep h1 u1 (List.replicate i ([] : List Ab.Timer)) G1 ∧ SlRep h1 u2 (List.replicate i ([] : List Ab.Timer)) G2 ∧ Own (h.n + 1 + 1) h1 G1 ∧ Own (h.n + 1 + 1) h1 G2 ∧ ∀ c ∈ G1, c ∉ G2) ?_ ?_
  · exact ⟨.nils, .nils, [], [], rfl, Nat.zero_le _, bk_auto, bk_auto, ext_auto, by simp only [push_n, upd_n]; omega, SlRep.nils, SlRep.nils, Own.nil, Own.nil, by simp⟩
  rintro i vs h1 _ ⟨u1, u2, G1, G2, rfl, hi, b1, b0, e1, m1, r1, r2, o1, o2, d12⟩
  simp only [g0]
  refine br (fun hlt => ?_) (fun hge => ?_)
  · (repeat' first|refine vs ?_|(refine br ?_ ?_<;>intro _<;>try(exfalso;first|omega|contradiction))|((with_reducible refine g_idx ?_);((first|refine ix ?_|refine ixi ?_|(refine ixg ?_;intro _ _)|(refine ixgi ?_;intro _ _));first|rintro _ _ _ _ _ ⟨rfl,rfl⟩ _|rintro _ _ _ _ _ ⟨_,rfl,_⟩ _|rintro _ _ _ _ _ ⟨_,_,_,_,rfl,rfl,_,_⟩ _|intro _ _ _ _ _ _ _))|(refine sx ?_;intro _ _)|((with_reducible refine g_awp ?_);simp only [g0,g1,g2]))
    have re := (empty_own (h := h1) (α := Ab.Timer) (w := 3) rfl)
    have re1 := re.1
    have re2 := re.2 (h.n + 1 + 1) m1
    refine app1F (n := h.n + 1 + 1) (xs := List.replicate i ([] : List Ab.Timer)) (Fx := G1) (a := []) slr_auto ⟨_, rfl, re1⟩ (own_app (ol_auto) re2 (Nat.le_refl _) dis_auto) om_auto rfl ?_ ?_ ?_
    · simp; omega
    · simp; omega
    intro w1 h2 F1 ek1 kp1 q1 p1 f1
    have n2 := kp1.1
    simp only [push_n] at n2
    have d1 : ∀ c ∈ F1, c ∉ G2 := fun c hc hc' => by
      rcases f1 c hc with g | g | g
      · exact d12 c g hc'
      · have := r2.lt c hc'; have := List.mem_singleton.1 g; omega
      · have := r2.lt c hc'; simp only [push_n] at g; omega
    have r22 : SlRep h2 u2 (List.replicate i ([] : List Ab.Timer)) G2 := slr_kp1 kp1 (slr_push1 r2) fun c hc hc' => d12 c hc' hc
    have o22 : Own (h.n + 1 + 1) h2 G2 := (ol_kp1 kp1 (ol_push1 (⟨o2, r2.lt⟩ : OwnL _ _ _)) fun c hc hc' => d12 c hc' hc).1
    (repeat' first|refine vs ?_|(refine br ?_ ?_<;>intro _<;>try(exfalso;first|omega|contradiction))|((with_reducible refine g_idx ?_);((first|refine ix ?_|refine ixi ?_|(refine ixg ?_;intro _ _)|(refine ixgi ?_;intro _ _));first|rintro _ _ _ _ _ ⟨rfl,rfl⟩ _|rintro _ _ _ _ _ ⟨_,rfl,_⟩ _|rintro _ _ _ _ _ ⟨_,_,_,_,rfl,rfl,_,_⟩ _|intro _ _ _ _ _ _ _))|(refine sx ?_;intro _ _)|((with_reducible refine g_awp ?_);simp only [g0,g1,g2]))
    have rf := (empty_own (h := h2.upd (h.n + 1) ⟨[.int .i64 0, w1, u2, .nils], 0, 0⟩) (α := Ab.Timer) (w := 3) rfl)
    have rf1 := rf.1
    have rf2 := rf.2 (h.n + 1 + 1) (by simp only [upd_n]; omega)
    have p12 : Own (h.n + 1 + 1) (h2.upd (h.n + 1) ⟨[.int .i64 0, w1, u2, .nils], 0, 0⟩) F1 := ol_auto
    have q12 : SlRep (h2.upd (h.n + 1) ⟨[.int .i64 0, w1, u2, .nils], 0, 0⟩) w1 (List.replicate i ([] : List Ab.Timer) ++ [[]]) F1 := slr_auto
    have r23 : SlRep (h2.upd (h.n + 1) ⟨[.int .i64 0, w1, u2, .nils], 0, 0⟩) u2 (List.replicate i ([] : List Ab.Timer)) G2 := slr_auto
    have o23 : Own (h.n + 1 + 1) (h2.upd (h.n + 1) ⟨[.int .i64 0, w1, u2, .nils], 0, 0⟩) G2 := ol_auto
    refine app1F (n := h.n + 1 + 1) (xs := List.replicate i ([] : List Ab.Timer)) (Fx := G2) (a := []) slr_auto ⟨_, rfl, rf1⟩ (own_app (ol_auto) rf2 (Nat.le_refl _) dis_auto) om_auto rfl ?_ ?_ ?_
    · simp; omega
    · simp; omega
    intro w2 h3 F2 ek2 kp2 q2 p2 f2
    have n3 := kp2.1
    simp only [push_n, upd_n] at n3
    have q13 : SlRep h3 w1 (List.replicate i ([] : List Ab.Timer) ++ [[]]) F1 := slr_kp1 kp2 (slr_push1 q12) d1
    have p13 : Own (h.n + 1 + 1) h3 F1 := (ol_kp1 kp2 (ol_push1 (⟨p12, q12.lt⟩ : OwnL _ _ _)) d1).1
    have d2 : ∀ c ∈ F1, c ∉ F2 := fun c hc hc' => by
      rcases f2 c hc' with g | g | g
      · exact d1 c hc g
      · have := q12.lt c hc; have := List.mem_singleton.1 g; simp only [upd_n] at this; simp only [upd_n] at *; omega
      · have := q12.lt c hc; simp only [push_n, upd_n] at g this; omega
    (repeat' first|refine vs ?_|(refine br ?_ ?_<;>intro _<;>try(exfalso;first|omega|contradiction))|((with_reducible refine g_idx ?_);((first|refine ix ?_|refine ixi ?_|(refine ixg ?_;intro _ _)|(refine ixgi ?_;intro _ _));first|rintro _ _ _ _ _ ⟨rfl,rfl⟩ _|rintro _ _ _ _ _ ⟨_,rfl,_⟩ _|rintro _ _ _ _ _ ⟨_,_,_,_,rfl,rfl,_,_⟩ _|intro _ _ _ _ _ _ _))|(refine sx ?_;intro _ _)|((with_reducible refine g_awp ?_);simp only [g0,g1,g2]))
    exact ⟨by omega, w1, w2, F1, F2, rfl, by omega, bk_auto, bk_auto, Ext.upd (ek2 h (Ext.push (Ext.upd (ek1 h (e1.push _) (by omega)) (show h.n ≤ h.n + 1 by omega) _) _) (by omega)) (by (try simp only [push_n, upd_n]); omega) _, by simp only [upd_n]; omega, by rw [List.replicate_succ']; exact slr_auto, by rw [List.replicate_succ']; exact slr_auto, ol_auto, ol_auto, d2⟩
  · have : i = 8 := by omega
    subst this
    (repeat' first|refine vs ?_|(refine br ?_ ?_<;>intro _<;>try(exfalso;first|omega|contradiction))|((with_reducible refine g_idx ?_);((first|refine ix ?_|refine ixi ?_|(refine ixg ?_;intro _ _)|(refine ixgi ?_;intro _ _));first|rintro _ _ _ _ _ ⟨rfl,rfl⟩ _|rintro _ _ _ _ _ ⟨_,rfl,_⟩ _|rintro _ _ _ _ _ ⟨_,_,_,_,rfl,rfl,_,_⟩ _|intro _ _ _ _ _ _ _))|(refine sx ?_;intro _ _)|((with_reducible refine g_awp ?_);simp only [g0,g1,g2]))
    exact ⟨rfl, _, rfl, ext_auto, _, _, rfl, ⟨_, _, _, _, _, [], rfl, rfl, slr_auto, slr_auto, SlRep.nils⟩, ((ol_app2 oll_auto (ol_app2 oll_auto ol_nil fun _ _ h => absurd h List.not_mem_nil) (dis_appR d12 fun _ _ h => absurd h List.not_mem_nil)).1 : Own (h.n + 1 + 1) _ _).mono (by omega) fun _ _ => rfl⟩
theorem s_impl_BucketNew {h : AH} {a b : Int} : RCalls Try.prog n_impl_BucketNew [.int .i64 a, .int .i64 b] h (.agg (Bucket.cs ⟨a, b, b, 0⟩)) := by
  refine reader (c_impl_BucketNew _ _) (by simp [old, olds, Bucket.cs]) ?_
  unfold p_impl_BucketNew
  (repeat' first|refine vs ?_|(refine br ?_ ?_<;>intro _<;>try(exfalso;first|omega|contradiction))|((with_reducible refine g_idx ?_);((first|refine ix ?_|refine ixi ?_|(refine ixg ?_;intro _ _)|(refine ixgi ?_;intro _ _));first|rintro _ _ _ _ _ ⟨rfl,rfl⟩ _|rintro _ _ _ _ _ ⟨_,rfl,_⟩ _|rintro _ _ _ _ _ ⟨_,_,_,_,rfl,rfl,_,_⟩ _|intro _ _ _ _ _ _ _))|(refine sx ?_;intro _ _)|((with_reducible refine g_awp ?_);simp only [g0,g1,g2]))
  exact pv rfl
theorem s_spec_BucketNew {h : AH} {a b : Int} : RCalls Try.prog n_spec_BucketNew [.int .i64 a, .int .i64 b] h (.agg (Bucket.cs ⟨a, b, b, 0⟩)) := by
  refine reader (c_spec_BucketNew _ _) (by simp [old, olds, Bucket.cs]) ?_
  unfold p_spec_BucketNew
  (repeat' first|refine vs ?_|(refine br ?_ ?_<;>intro _<;>try(exfalso;first|omega|contradiction))|((with_reducible refine g_idx ?_);((first|refine ix ?_|refine ixi ?_|(refine ixg ?_;intro _ _)|(refine ixgi ?_;intro _ _));first|rintro _ _ _ _ _ ⟨rfl,rfl⟩ _|rintro _ _ _ _ _ ⟨_,rfl,_⟩ _|rintro _ _ _ _ _ ⟨_,_,_,_,rfl,rfl,_,_⟩ _|intro _ _ _ _ _ _ _))|(refine sx ?_;intro _ _)|((with_reducible refine g_awp ?_);simp only [g0,g1,g2]))
  exact pv rfl
end Go.Proofs.Ytideefohbkhhhaa
