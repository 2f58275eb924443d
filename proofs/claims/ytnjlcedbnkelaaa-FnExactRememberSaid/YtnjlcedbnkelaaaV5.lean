/- The law of what is forgotten. -/
import Derived.Test.YtnjlcedbnkelaaaV4
set_option linter.unusedSimpArgs false
set_option linter.unusedVariables false
namespace Go.Proofs.Ytnjlcedbnkelaaa
open Go Go.Ab

theorem szr_pos {b : Int} {s : Nat} (h : ¬ szr b s < 0) : (s : Int) ≤ b ∧ szr b s = b - s := by
  simp only [szr] at h ⊢; split at h
  · rename_i hh; rw [if_pos hh]; exact ⟨hh, rfl⟩
  · omega

theorem law_FnExactForgets {h : AH} {xs ys : List Verdict} {x0 x1 : AV} {F G : List Nat} (r : SlRep h x0 xs F) (ok0 : ∀ x ∈ xs, Cel.ok x) (r' : SlRep h x1 ys G) (ok1 : ∀ x ∈ ys, Cel.ok x) : RCalls Try.prog n_laws_FnExactForgets [x0, x1] h (.bool true) := by
  refine reader (c_laws_FnExactForgets _ _) (by simp only [old]) ?_
  unfold p_laws_FnExactForgets
  refine aw_rcall (s_laws_szVerdictS xs x0 F _ h r (by decide) (by decide)) ?_
  (repeat' first|refine vs ?_|(refine br ?_ ?_<;>intro _<;>try(exfalso;first|omega|contradiction))|((with_reducible refine g_idx ?_);(first|refine ix ?_|refine ixi ?_);first|rintro _ _ _ _ _ ⟨rfl,rfl⟩ _|rintro _ _ _ _ _ ⟨_,rfl,_⟩ _|intro _ _ _ _ _ _ _))
  · exact ⟨rfl, rfl, Ext.refl _⟩
  rename_i hs
  obtain ⟨hs, hs'⟩ := szr_pos hs
  rw [hs']
  refine aw_rcall (s_laws_szVerdictS ys x1 G _ h r' (by omega) (by omega)) ?_
  (repeat' first|refine vs ?_|(refine br ?_ ?_<;>intro _<;>try(exfalso;first|omega|contradiction))|((with_reducible refine g_idx ?_);(first|refine ix ?_|refine ixi ?_);first|rintro _ _ _ _ _ ⟨rfl,rfl⟩ _|rintro _ _ _ _ _ ⟨_,rfl,_⟩ _|intro _ _ _ _ _ _ _))
  · exact ⟨rfl, rfl, Ext.refl _⟩
  rename_i ht
  obtain ⟨ht, ht'⟩ := szr_pos ht
  refine aw_call (s_laws_toVerdictS xs x0 F h r (by omega)) ?_
  rintro v1 h1 ⟨e1, F1, r1, o1⟩
  refine aw_call (s_laws_toVerdictS ys x1 G h1 (r'.ext e1) (by omega)) ?_
  rintro v2 h2 ⟨e2, F2, r2, o2⟩
  refine aw_call (s_spec_Forgets (r1.ext e2) r2 (by omega)) ?_
  rintro v3 h3 ⟨e3, F3, r3, o3⟩
  refine aw_call (s_laws_toVerdictS xs x0 F h3 (r.ext ext_auto) (by omega)) ?_
  rintro v4 h4 ⟨e4, F4, r4, o4⟩
  refine aw_call (s_laws_toVerdictS ys x1 G h4 (r'.ext ext_auto) (by omega)) ?_
  rintro v5 h5 ⟨e5, F5, r5, o5⟩
  refine aw_call (s_impl_Forgets (r4.ext e5) r5 (by omega)) ?_
  rintro v6 h6 ⟨e6, F6, r6, o6⟩
  refine aw_rcall (s_laws_eqIntS _ _ _ _ _ _ r6 (r3.ext ext_auto)) ?_
  (repeat' first|refine vs ?_|(refine br ?_ ?_<;>intro _<;>try(exfalso;first|omega|contradiction))|((with_reducible refine g_idx ?_);(first|refine ix ?_|refine ixi ?_);first|rintro _ _ _ _ _ ⟨rfl,rfl⟩ _|rintro _ _ _ _ _ ⟨_,rfl,_⟩ _|intro _ _ _ _ _ _ _))
  refine aw_call (s_laws_toVerdictS xs x0 F h6 (r.ext ext_auto) (by omega)) ?_
  rintro v7 h7 ⟨e7, F7, r7, o7⟩
  refine aw_rcall (s_laws_eqVerdictS _ _ _ _ _ _ (r4.ext ext_auto) r7) ?_
  (repeat' first|refine vs ?_|(refine br ?_ ?_<;>intro _<;>try(exfalso;first|omega|contradiction))|((with_reducible refine g_idx ?_);(first|refine ix ?_|refine ixi ?_);first|rintro _ _ _ _ _ ⟨rfl,rfl⟩ _|rintro _ _ _ _ _ ⟨_,rfl,_⟩ _|intro _ _ _ _ _ _ _))
  refine aw_call (s_laws_toVerdictS ys x1 G h7 (r'.ext ext_auto) (by omega)) ?_
  rintro v8 h8 ⟨e8, F8, r8, o8⟩
  refine aw_rcall (s_laws_eqVerdictS _ _ _ _ _ _ (r5.ext ext_auto) r8) ?_
  (repeat' first|refine vs ?_|(refine br ?_ ?_<;>intro _<;>try(exfalso;first|omega|contradiction))|((with_reducible refine g_idx ?_);(first|refine ix ?_|refine ixi ?_);first|rintro _ _ _ _ _ ⟨rfl,rfl⟩ _|rintro _ _ _ _ _ ⟨_,rfl,_⟩ _|intro _ _ _ _ _ _ _))
  -- the marks on what went in
  have l4 := r4.lt
  have l3 := r3.lt
  have l5 := r5.lt
  have l6 := r6.lt
  have n3 := e3.1
  have n4 := e4.1
  have n5 := e5.1
  have n6 := e6.1
  have n7 := e7.1
  have n8 := e8.1
  have nE : h.n ≤ h3.n := (show Ext h h3 from ext_auto).1
  have R4 : SlRep h8 v4 xs F4 := r4.ext ext_auto
  have R5 : SlRep h8 v5 ys F5 := r5.ext ext_auto
  have R6 : SlRep h8 v6 _ F6 := r6.ext ext_auto
  have R3 : SlRep h8 v3 _ F3 := r3.ext ext_auto
  have O4 : Own h3.n h8 F4 := o4.ext ext_auto l4
  have O5 : Own h4.n h8 F5 := o5.ext ext_auto l5
  have O6 : Own h5.n h8 F6 := o6.ext ext_auto l6
  have hc4 := cnt_Verdict xs 1
  refine aw_call (s_laws_markVerdictS xs v4 F4 _ 1 h8 R4 O4 (by decide) (by omega)) ?_
  rintro m1 h9 ⟨rfl, k9, q4, _⟩
  have d34 : ∀ b ∈ F3, b ∉ F4 := fun b hb hb' => by have := l3 b hb; have := (O4.2 b hb').1; omega
  have d54 : ∀ b ∈ F5, b ∉ F4 := fun b hb hb' => by have := (O5.2 b hb).1; have := l4 b hb'; omega
  have d64 : ∀ b ∈ F6, b ∉ F4 := fun b hb hb' => by have := (O6.2 b hb).1; have := l4 b hb'; omega
  have E9 : Ext h h9 := k9.ext ext_auto fun b hb => by have := (O4.2 b hb).1; omega
  have R5' := R5.kp k9 d54
  have O5' : Own h4.n h9 F5 := O5.mono (Nat.le_refl _) fun b hb => k9.2 b (R5.lt b hb) (d54 b hb)
  have hc5 := cnt_Verdict ys (mks 1 xs).2
  refine aw_call (s_laws_markVerdictS ys v5 F5 _ _ h9 R5' O5' (by omega) (by omega)) ?_
  rintro m2 h10 ⟨rfl, k10, q5, _⟩
  have d35 : ∀ b ∈ F3, b ∉ F5 := fun b hb hb' => by have := l3 b hb; have := (O5.2 b hb').1; omega
  have d65 : ∀ b ∈ F6, b ∉ F5 := fun b hb hb' => by have := (O6.2 b hb).1; have := l5 b hb'; omega
  have E10 : Ext h h10 := k10.ext E9 fun b hb => by have := (O5.2 b hb).1; omega
  have R6' := (R6.kp k9 d64).kp k10 d65
  have R3' := (R3.kp k9 d34).kp k10 d35
  have O6' : Own h5.n h10 F6 := (O6.mono (Nat.le_refl _) fun b hb => k9.2 b (R6.lt b hb) (d64 b hb)).mono (Nat.le_refl _) fun b hb => k10.2 b ((R6.kp k9 d64).lt b hb) (d65 b hb)
  (repeat' first|refine vs ?_|(refine br ?_ ?_<;>intro _<;>try(exfalso;first|omega|contradiction))|((with_reducible refine g_idx ?_);(first|refine ix ?_|refine ixi ?_);first|rintro _ _ _ _ _ ⟨rfl,rfl⟩ _|rintro _ _ _ _ _ ⟨_,rfl,_⟩ _|intro _ _ _ _ _ _ _))
  refine aw_rcall (s_laws_eqIntS _ _ _ _ _ _ R6' R3') ?_
  (repeat' first|refine vs ?_|(refine br ?_ ?_<;>intro _<;>try(exfalso;first|omega|contradiction))|((with_reducible refine g_idx ?_);(first|refine ix ?_|refine ixi ?_);first|rintro _ _ _ _ _ ⟨rfl,rfl⟩ _|rintro _ _ _ _ _ ⟨_,rfl,_⟩ _|intro _ _ _ _ _ _ _))
  -- the marks on what came out
  have hfl := forgets_len xs ys
  have hc6 := cnt_Int (forgets xs ys) 1
  refine aw_call (s_laws_markIntS _ v6 F6 _ 1 h10 R6' O6' (by decide) (by omega)) ?_
  rintro m3 h11 ⟨rfl, k11, q6, _⟩
  have d36 : ∀ b ∈ F3, b ∉ F6 := fun b hb hb' => by have := l3 b hb; have := (O6.2 b hb').1; omega
  have E11 : Ext h h11 := k11.ext E10 fun b hb => by have := (O6.2 b hb).1; omega
  have R3'' := R3'.kp k11 d36
  refine aw_rcall (s_laws_heldIntS _ _ _ _ _ q6 (by decide) (by omega)) ?_
  (repeat' first|refine vs ?_|(refine br ?_ ?_<;>intro _<;>try(exfalso;first|omega|contradiction))|((with_reducible refine g_idx ?_);(first|refine ix ?_|refine ixi ?_);first|rintro _ _ _ _ _ ⟨rfl,rfl⟩ _|rintro _ _ _ _ _ ⟨_,rfl,_⟩ _|intro _ _ _ _ _ _ _))
  refine aw_call (s_laws_toVerdictS xs x0 F h11 (r.ext E11) (by omega)) ?_
  rintro v12 h12 ⟨e12, F12, r12, o12⟩
  refine aw_call (s_laws_toVerdictS ys x1 G h12 (r'.ext ext_auto) (by omega)) ?_
  rintro v13 h13 ⟨e13, F13, r13, o13⟩
  refine aw_call (s_impl_Forgets (r12.ext e13) r13 (by omega)) ?_
  rintro v14 h14 ⟨e14, F14, r14, o14⟩
  refine aw_rcall (s_laws_eqIntS _ _ _ _ _ _ r14 (R3''.ext ext_auto)) ?_
  (repeat' first|refine vs ?_|(refine br ?_ ?_<;>intro _<;>try(exfalso;first|omega|contradiction))|((with_reducible refine g_idx ?_);(first|refine ix ?_|refine ixi ?_);first|rintro _ _ _ _ _ ⟨rfl,rfl⟩ _|rintro _ _ _ _ _ ⟨_,rfl,_⟩ _|intro _ _ _ _ _ _ _))
  refine aw_rcall (s_laws_heldIntS _ _ _ _ _ (q6.ext ext_auto) (by decide) (by omega)) ?_
  (repeat' first|refine vs ?_|(refine br ?_ ?_<;>intro _<;>try(exfalso;first|omega|contradiction))|((with_reducible refine g_idx ?_);(first|refine ix ?_|refine ixi ?_);first|rintro _ _ _ _ _ ⟨rfl,rfl⟩ _|rintro _ _ _ _ _ ⟨_,rfl,_⟩ _|intro _ _ _ _ _ _ _))
  exact ⟨rfl, rfl, ext_auto⟩

end Go.Proofs.Ytnjlcedbnkelaaa
