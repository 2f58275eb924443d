/- The law of Remember. -/
import Derived.Test.YtnjlcedbnkelaaaV7
set_option linter.unusedSimpArgs false
set_option linter.unusedVariables false
namespace Go.Proofs.Ytnjlcedbnkelaaa
open Go Go.Ab

theorem rem_len (xs : List Verdict) (v : Verdict) (m : Int) : (rem xs v m).1.length ≤ xs.length + 1 := by
  have : (xs.filter fun x => !isT v.trace x).length ≤ xs.length := List.length_filter_le _ _
  unfold rem; split
  · simp
  · simp [keepers]; omega

set_option maxHeartbeats 2000000 in
theorem law_FnExactRemember {h : AH} {xs : List Verdict} {x0 : AV} {F : List Nat} {cs : List AV} {v : Verdict} {G : List Nat} {m : Int} (r : SlRep h x0 xs F) (ok0 : ∀ x ∈ xs, Cel.ok x) (rv : Cel.rep h v cs G) (ok1 : Cel.ok v) (ok2 : rng m) : RCalls Try.prog n_laws_FnExactRemember [x0, .agg cs, .int .i64 m] h (.bool true) := by
  obtain ⟨rfl, rfl⟩ := rv
  refine reader (c_laws_FnExactRemember _ _ _) (by simp only [old]) ?_
  unfold p_laws_FnExactRemember
  refine aw_box rfl ?_
  refine aw_rcall (s_laws_szVerdictS xs x0 F _ _ (r.ext ext_auto) (by decide) (by decide)) ?_
  (repeat' first|refine vs ?_|(refine br ?_ ?_<;>intro _<;>try(exfalso;first|omega|contradiction))|((with_reducible refine g_idx ?_);(first|refine ix ?_|refine ixi ?_);first|rintro _ _ _ _ _ ⟨rfl,rfl⟩ _|rintro _ _ _ _ _ ⟨_,rfl,_⟩ _|intro _ _ _ _ _ _ _))
  · exact ⟨rfl, rfl, ext_auto⟩
  rename_i hs
  obtain ⟨hs, hs'⟩ := szr_pos hs
  refine aw_call (s_laws_toVerdictS xs x0 F _ (r.ext ext_auto) (by omega)) ?_
  rintro v1 h1 ⟨e1, F1, r1, o1⟩
  have a1 : At h1 h.n 0 v.cs := at_push.ext e1
  (repeat' first|refine vs ?_|(refine br ?_ ?_<;>intro _<;>try(exfalso;first|omega|contradiction))|((with_reducible refine g_idx ?_);(first|refine ix ?_|refine ixi ?_);first|rintro _ _ _ _ _ ⟨rfl,rfl⟩ _|rintro _ _ _ _ _ ⟨_,rfl,_⟩ _|intro _ _ _ _ _ _ _))
  refine aw_call (s_laws_toVerdict v _ [] h1 ⟨rfl, rfl⟩) ?_
  rintro _ h2 ⟨e2, _, _, rfl, ⟨rfl, rfl⟩, _⟩
  refine aw_call (s_spec_Remember (r1.ext e2) (by omega)) ?_
  rintro _ h3 ⟨e3, v3, F3, rfl, r3, o3⟩
  (repeat' first|refine vs ?_|(refine br ?_ ?_<;>intro _<;>try(exfalso;first|omega|contradiction))|((with_reducible refine g_idx ?_);(first|refine ix ?_|refine ixi ?_);first|rintro _ _ _ _ _ ⟨rfl,rfl⟩ _|rintro _ _ _ _ _ ⟨_,rfl,_⟩ _|intro _ _ _ _ _ _ _))
  refine aw_call (s_laws_toVerdictS xs x0 F _ (r.ext ext_auto) (by omega)) ?_
  rintro v4 h4 ⟨e4, F4, r4, o4⟩
  (repeat' first|refine vs ?_|(refine br ?_ ?_<;>intro _<;>try(exfalso;first|omega|contradiction))|((with_reducible refine g_idx ?_);(first|refine ix ?_|refine ixi ?_);first|rintro _ _ _ _ _ ⟨rfl,rfl⟩ _|rintro _ _ _ _ _ ⟨_,rfl,_⟩ _|intro _ _ _ _ _ _ _))
  refine aw_call (s_laws_toVerdict v _ [] h4 ⟨rfl, rfl⟩) ?_
  rintro _ h5 ⟨e5, _, _, rfl, ⟨rfl, rfl⟩, _⟩
  refine aw_call (s_impl_Remember (r4.ext e5) (by omega)) ?_
  rintro _ h6 ⟨e6, v6, F6, rfl, r6, o6⟩
  (repeat' first|refine vs ?_|(refine br ?_ ?_<;>intro _<;>try(exfalso;first|omega|contradiction))|((with_reducible refine g_idx ?_);(first|refine ix ?_|refine ixi ?_);first|rintro _ _ _ _ _ ⟨rfl,rfl⟩ _|rintro _ _ _ _ _ ⟨_,rfl,_⟩ _|intro _ _ _ _ _ _ _))
  refine aw_rcall (s_laws_eqVerdictS _ _ _ _ _ _ r6 (r3.ext ext_auto)) ?_
  (repeat' first|refine vs ?_|(refine br ?_ ?_<;>intro _<;>try(exfalso;first|omega|contradiction))|((with_reducible refine g_idx ?_);(first|refine ix ?_|refine ixi ?_);first|rintro _ _ _ _ _ ⟨rfl,rfl⟩ _|rintro _ _ _ _ _ ⟨_,rfl,_⟩ _|intro _ _ _ _ _ _ _))
  refine aw_call (s_laws_toVerdictS xs x0 F _ (r.ext ext_auto) (by omega)) ?_
  rintro v7 h7 ⟨e7, F7, r7, o7⟩
  refine aw_rcall (s_laws_eqVerdictS _ _ _ _ _ _ (r4.ext ext_auto) r7) ?_
  (repeat' first|refine vs ?_|(refine br ?_ ?_<;>intro _<;>try(exfalso;first|omega|contradiction))|((with_reducible refine g_idx ?_);(first|refine ix ?_|refine ixi ?_);first|rintro _ _ _ _ _ ⟨rfl,rfl⟩ _|rintro _ _ _ _ _ ⟨_,rfl,_⟩ _|intro _ _ _ _ _ _ _))
  have l4 := r4.lt
  have l3 := r3.lt
  have l6 := r6.lt
  have n1 : h.n + 1 ≤ h1.n := e1.1
  have n2 := e2.1
  have n3 := e3.1
  have n4 := e4.1
  have n5 := e5.1
  have n6 := e6.1
  have n7 := e7.1
  have R4 : SlRep h7 v4 xs F4 := r4.ext ext_auto
  have R6 : SlRep h7 v6 _ F6 := r6.ext ext_auto
  have R3 : SlRep h7 v3 _ F3 := r3.ext ext_auto
  have O4 : Own h3.n h7 F4 := o4.ext ext_auto l4
  have O6 : Own h5.n h7 F6 := o6.ext ext_auto l6
  have hc4 := cnt_Verdict xs 1
  have A7 : At h7 h.n 0 v.cs := a1.ext ext_auto
  have E7 : Ext (h.push ⟨v.cs, 0, 0⟩) h7 := ext_auto
  refine aw_call (s_laws_markVerdictS xs v4 F4 _ 1 h7 R4 O4 (by decide) (by omega)) ?_
  rintro _ h8 ⟨rfl, k8, q4, _⟩
  have d34 : ∀ b ∈ F3, b ∉ F4 := fun b hb hb' => by have := l3 b hb; have := (O4.2 b hb').1; omega
  have d64 : ∀ b ∈ F6, b ∉ F4 := fun b hb hb' => by have := (O6.2 b hb).1; have := l4 b hb'; omega
  have E8 : Ext (h.push ⟨v.cs, 0, 0⟩) h8 := k8.ext E7 fun b hb => by have := (O4.2 b hb).1; simp; omega
  have R6' := R6.kp k8 d64
  have R3' := R3.kp k8 d34
  have O6' : Own h5.n h8 F6 := O6.mono (Nat.le_refl _) fun b hb => k8.2 b (R6.lt b hb) (d64 b hb)
  (repeat' first|refine vs ?_|(refine br ?_ ?_<;>intro _<;>try(exfalso;first|omega|contradiction))|((with_reducible refine g_idx ?_);(first|refine ix ?_|refine ixi ?_);first|rintro _ _ _ _ _ ⟨rfl,rfl⟩ _|rintro _ _ _ _ _ ⟨_,rfl,_⟩ _|intro _ _ _ _ _ _ _))
  refine aw_rcall (s_laws_eqVerdictS _ _ _ _ _ _ R6' R3') ?_
  (repeat' first|refine vs ?_|(refine br ?_ ?_<;>intro _<;>try(exfalso;first|omega|contradiction))|((with_reducible refine g_idx ?_);(first|refine ix ?_|refine ixi ?_);first|rintro _ _ _ _ _ ⟨rfl,rfl⟩ _|rintro _ _ _ _ _ ⟨_,rfl,_⟩ _|intro _ _ _ _ _ _ _))
  have hrl := rem_len xs v m
  have hc6 := cnt_Verdict (rem xs v m).1 1
  refine aw_call (s_laws_markVerdictS _ v6 F6 _ 1 h8 R6' O6' (by decide) (by omega)) ?_
  rintro _ h9 ⟨rfl, k9, q6, _⟩
  have d36 : ∀ b ∈ F3, b ∉ F6 := fun b hb hb' => by have := l3 b hb; have := (O6.2 b hb').1; omega
  have E9 : Ext (h.push ⟨v.cs, 0, 0⟩) h9 := k9.ext E8 fun b hb => by have := (O6.2 b hb).1; simp; omega
  have R3'' := R3'.kp k9 d36
  refine aw_rcall (s_laws_heldVerdictS _ _ _ _ _ q6 (by decide) (by omega)) ?_
  clear a1 A7
  have A9 : At h9 h.n 0 v.cs := at_push.ext E9
  (repeat' first|refine vs ?_|(refine br ?_ ?_<;>intro _<;>try(exfalso;first|omega|contradiction))|((with_reducible refine g_idx ?_);(first|refine ix ?_|refine ixi ?_);first|rintro _ _ _ _ _ ⟨rfl,rfl⟩ _|rintro _ _ _ _ _ ⟨_,rfl,_⟩ _|intro _ _ _ _ _ _ _))
  refine aw_call (s_laws_toVerdictS xs x0 F h9 (r.ext (Ext.trans ((Ext.refl h).push _) E9)) (by omega)) ?_
  rintro v10 h10 ⟨e10, F10, r10, o10⟩
  (repeat' first|refine vs ?_|(refine br ?_ ?_<;>intro _<;>try(exfalso;first|omega|contradiction))|((with_reducible refine g_idx ?_);(first|refine ix ?_|refine ixi ?_);first|rintro _ _ _ _ _ ⟨rfl,rfl⟩ _|rintro _ _ _ _ _ ⟨_,rfl,_⟩ _|intro _ _ _ _ _ _ _))
  refine aw_call (s_laws_toVerdict v _ [] h10 ⟨rfl, rfl⟩) ?_
  rintro _ h11 ⟨e11, _, _, rfl, ⟨rfl, rfl⟩, _⟩
  refine aw_call (s_impl_Remember (r10.ext e11) (by omega)) ?_
  rintro _ h12 ⟨e12, v12, F12, rfl, r12, o12⟩
  (repeat' first|refine vs ?_|(refine br ?_ ?_<;>intro _<;>try(exfalso;first|omega|contradiction))|((with_reducible refine g_idx ?_);(first|refine ix ?_|refine ixi ?_);first|rintro _ _ _ _ _ ⟨rfl,rfl⟩ _|rintro _ _ _ _ _ ⟨_,rfl,_⟩ _|intro _ _ _ _ _ _ _))
  refine aw_rcall (s_laws_eqVerdictS _ _ _ _ _ _ r12 (R3''.ext ext_auto)) ?_
  (repeat' first|refine vs ?_|(refine br ?_ ?_<;>intro _<;>try(exfalso;first|omega|contradiction))|((with_reducible refine g_idx ?_);(first|refine ix ?_|refine ixi ?_);first|rintro _ _ _ _ _ ⟨rfl,rfl⟩ _|rintro _ _ _ _ _ ⟨_,rfl,_⟩ _|intro _ _ _ _ _ _ _))
  refine aw_rcall (s_laws_heldVerdictS _ _ _ _ _ (q6.ext ext_auto) (by decide) (by omega)) ?_
  (repeat' first|refine vs ?_|(refine br ?_ ?_<;>intro _<;>try(exfalso;first|omega|contradiction))|((with_reducible refine g_idx ?_);(first|refine ix ?_|refine ixi ?_);first|rintro _ _ _ _ _ ⟨rfl,rfl⟩ _|rintro _ _ _ _ _ ⟨_,rfl,_⟩ _|intro _ _ _ _ _ _ _))
  exact ⟨rfl, rfl, Ext.trans ((Ext.refl h).push _) (Ext.trans E9 ext_auto)⟩

end Go.Proofs.Ytnjlcedbnkelaaa
