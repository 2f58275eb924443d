/- What is remembered: the functions of Remember. -/
import Derived.Test.YtnjlcedbnkelaaaV5
import Derived.Test.YtnjlcedbnkelaaaAb30
set_option linter.unusedSimpArgs false
set_option linter.unusedVariables false
namespace Go.Proofs.Ytnjlcedbnkelaaa
open Go Go.Ab

theorem tail_flat {α : Type} [Flat α] {h : AH} {v : AV} {xs : List α} {F : List Nat} (r : SlRep h v xs F) : F.tail = [] := by
  rcases r.flat with ⟨_, _, rfl⟩ | ⟨b, _, _, _, rfl, _⟩ <;> rfl

def keepers (xs : List Verdict) (v : Verdict) : List Verdict := (xs.filter fun x => !isT v.trace x) ++ [v]
/-- Behind 'd' that are forgotten. -/
def gone (l : List Verdict) (d : Nat) : Int := match d with
  | 0 => 0
  | d + 1 => match l[d]? with
    | some v => v.trace
    | none => 0
def rem (xs : List Verdict) (v : Verdict) (most : Int) : List Verdict × Int :=
  if most < 1 then (xs, 0) else ((keepers xs v).drop ((keepers xs v).length - most.toNat), gone (keepers xs v) ((keepers xs v).length - most.toNat))

theorem s_impl_Remember_1 {h : AH} {b : Nat} {v : Verdict} (a : At h b 0 v.cs) : Looks Verdict Try.prog h n_impl_Remember_1 [.ptr b 0] (isT v.trace) := by
  rintro x cs F ⟨rfl, rfl⟩
  refine reader (c_impl_Remember_1 _ _) (by simp only [old]) ?_
  unfold p_impl_Remember_1
  refine aw_box rfl ?_
  (repeat' first|refine vs ?_|(refine br ?_ ?_<;>intro _<;>try(exfalso;first|omega|contradiction))|((with_reducible refine g_idx ?_);(first|refine ix ?_|refine ixi ?_);first|rintro _ _ _ _ _ ⟨rfl,rfl⟩ _|rintro _ _ _ _ _ ⟨_,rfl,_⟩ _|intro _ _ _ _ _ _ _))
  all_goals (refine ⟨rfl, ?_, ext_auto⟩; simp [isT, *])

theorem s_slices_DeleteFunc_Verdict {h : AH} {n : Nat} {xs : List Verdict} {x0 : AV} {F : List Nat} {f : FuncId} {caps : List AV} {p : Verdict → Bool} (r : SlRep h x0 xs F) (o : Own n h F) (hf : ∀ h', Kp h h' F → Looks Verdict Try.prog h' f caps p) :
    ACalls Try.prog n_slices_DeleteFunc_Verdict [x0, .fn f caps] h fun u h' => Kp h h' F ∧ SlRep h' u (xs.filter fun x => !p x) F ∧ Own n h' F :=
  c_slices_DeleteFunc_Verdict _ _ (delF_spec (w := 3) rfl rfl r o (s_slices_IndexFunc_Verdict r (hf h (Kp.refl _ _))) hf)

theorem gone_succ {l : List Verdict} {d : Nat} {x : Verdict} (hx : l[d]? = some x) : gone l (d + 1) = x.trace := by simp [gone, hx]

theorem s_impl_Remember {h : AH} {xs : List Verdict} {x0 : AV} {F : List Nat} {v : Verdict} {m : Int} (r : SlRep h x0 xs F) (hsz : xs.length ≤ 1048576) :
    ACalls Try.prog n_impl_Remember [x0, .agg v.cs, .int .i64 m] h fun u h' => Ext h h' ∧ ∃ u0 F', u = .tup [u0, .int .i64 (rem xs v m).2] ∧ SlRep h' u0 (rem xs v m).1 F' ∧ Own h.n h' F' := by
  refine c_impl_Remember _ _ _ ?_
  unfold p_impl_Remember
  refine aw_box rfl ?_
  refine aw_app (n := h.n + 1) SlRep.nils (r.ext ((Ext.refl _).push _)) (by rw [tail_flat r]; exact Own.nil) (by simp) rfl (by simp; omega) (by simp; omega) ?_
  intro v1 h1 F1 k1 r1 o1
  have e1 : Ext h h1 := k1.ext ((Ext.refl h).push _) (by simp)
  have e1' : Ext (h.push ⟨v.cs, 0, 0⟩) h1 := k1.ext (Ext.refl _) (by simp)
  have a1 : At h1 h.n 0 v.cs := at_push.ext e1'
  rw [List.nil_append] at r1
  have hn1 : h.n + 1 ≤ h1.n := e1'.1
  have up : ∀ {h' : AH}, Kp h1 h' F1 → Ext (h.push ⟨v.cs, 0, 0⟩) h' := fun kp => kp.ext e1' fun b hb => (o1.2 b hb).1
  (repeat' first|refine vs ?_|(refine br ?_ ?_<;>intro _<;>try(exfalso;first|omega|contradiction))|((with_reducible refine g_idx ?_);(first|refine ix ?_|refine ixi ?_);first|rintro _ _ _ _ _ ⟨rfl,rfl⟩ _|rintro _ _ _ _ _ ⟨_,rfl,_⟩ _|intro _ _ _ _ _ _ _))
  · rename_i hm
    refine ⟨rfl, _, rfl, e1, v1, F1, ?_, ?_, o1.mono (by omega) fun _ _ => rfl⟩
    · simp [rem, hm]
    · simpa [rem, hm] using r1
  · rename_i hm
    refine aw_call (s_slices_DeleteFunc_Verdict (p := isT v.trace) r1 o1 fun h' kp => s_impl_Remember_1 (at_push.ext (up kp))) ?_
    rintro v2 h2 ⟨k2, r2, o2⟩
    have e2 := up k2
    have a2 : At h2 h.n 0 v.cs := at_push.ext e2
    have hfl : (xs.filter fun x => !isT v.trace x).length ≤ xs.length := List.length_filter_le _ _
    clear e1 e1' a1
    (repeat' first|refine vs ?_|(refine br ?_ ?_<;>intro _<;>try(exfalso;first|omega|contradiction))|((with_reducible refine g_idx ?_);(first|refine ix ?_|refine ixi ?_);first|rintro _ _ _ _ _ ⟨rfl,rfl⟩ _|rintro _ _ _ _ _ ⟨_,rfl,_⟩ _|intro _ _ _ _ _ _ _))
    refine aw_app (n := h.n + 1) (r2.ext ext_auto) (slrep_push (n := 1) (xs := [v]) rfl (by decide) (reps_one ⟨rfl, rfl⟩)) (by simpa using o2.ext ext_auto r2.lt) (by have := e2.1; simp at this ⊢; omega) rfl (by simp; omega) (by simp; omega) ?_
    intro v3 h3 F3 k3 r3 o3
    have e3 : Ext h h3 := k3.ext (Ext.trans ((Ext.refl h).push _) (e2.push _)) fun b hb => by have := (o2.2 b hb).1; omega
    have hL : (keepers xs v).length ≤ 1048577 := by simp [keepers]; omega
    change SlRep h3 v3 (keepers xs v) F3 at r3
    refine aw_loop (fun k vs h4 => ∃ d va F4, vs = [va, .int .i64 (gone (keepers xs v) d)] ∧ k = (keepers xs v).length - d ∧ d ≤ (keepers xs v).length - m.toNat ∧ Ext h h4 ∧ SlRep h4 va ((keepers xs v).drop d) F4 ∧ Own h.n h4 F4) (keepers xs v).length ⟨0, v3, F3, rfl, rfl, by omega, e3, r3, o3.mono (by omega) fun _ _ => rfl⟩ ?_
    rintro k vs h4 ⟨d, va, F4, rfl, rfl, hd, e4, r4, o4⟩
    simp only [g0, g1]
    refine aw_len r4 ?_
    rw [List.length_drop]
    refine aw_gtr (fun hgt => ?_) (fun hle => ?_)
    · obtain ⟨x, hx, hdr, _⟩ := drop_step (show d < (keepers xs v).length by omega)
      rw [hdr] at r4
      have h0 : (x :: (keepers xs v).drop (d + 1))[(0 : Int).toNat]? = some x := rfl
      refine aw_ite_t (aw_idxi r4 (by decide) h0 rfl ?_)
      rintro b o cs Fi a5 ⟨rfl, rfl⟩ _
      (repeat' first|refine vs ?_|(refine br ?_ ?_<;>intro _<;>try(exfalso;first|omega|contradiction))|((with_reducible refine g_idx ?_);(first|refine ix ?_|refine ixi ?_);first|rintro _ _ _ _ _ ⟨rfl,rfl⟩ _|rintro _ _ _ _ _ ⟨_,rfl,_⟩ _|intro _ _ _ _ _ _ _))
      refine aw_tail rfl r4 o4 fun u r5 => ?_
      (repeat' first|refine vs ?_|(refine br ?_ ?_<;>intro _<;>try(exfalso;first|omega|contradiction))|((with_reducible refine g_idx ?_);(first|refine ix ?_|refine ixi ?_);first|rintro _ _ _ _ _ ⟨rfl,rfl⟩ _|rintro _ _ _ _ _ ⟨_,rfl,_⟩ _|intro _ _ _ _ _ _ _))
      refine ⟨_, ?_, d + 1, u, F4, by rw [gone_succ hx], rfl, by omega, e4, r5, o4⟩
      omega
    · have hde : d = (keepers xs v).length - m.toNat := by omega
      (repeat' first|refine vs ?_|(refine br ?_ ?_<;>intro _<;>try(exfalso;first|omega|contradiction))|((with_reducible refine g_idx ?_);(first|refine ix ?_|refine ixi ?_);first|rintro _ _ _ _ _ ⟨rfl,rfl⟩ _|rintro _ _ _ _ _ ⟨_,rfl,_⟩ _|intro _ _ _ _ _ _ _))
      refine ⟨rfl, _, rfl, e4, va, F4, ?_, ?_, o4⟩
      · rw [hde]; simp [rem, hm, g]
      · rw [hde] at r4; simpa [rem, hm] using r4

end Go.Proofs.Ytnjlcedbnkelaaa
