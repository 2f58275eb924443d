/- A trail is dropped. -/
import Derived.Test.YtpcgbddmdipfbaaW12
import Derived.Test.YtpcgbddmdipfbaaK4
set_option linter.unusedSimpArgs false
set_option linter.unusedVariables false
set_option maxHeartbeats 1000000
namespace Go.Proofs.Ytpcgbddmdipfbaa
open Go Go.Ab
section
/- slices.Delete[[]impl.Trail,impl.Trail] -/
def p_slices_Delete_Trail (x0 x1 x2 : AV) : Prog := .op (.len 0 x0) fun v1 => .op (.slc3 x0 (some x1) (some x2) v1) fun v2 => .op (.bin 0 .eql x1 x2) fun v3 => .ite v3 (.fin [.val x0]) (.op (.len 0 x0) fun v4 => .op (.slc 4 x0 none (some x1) none) fun v5 => .op (.slc 4 x0 (some x2) none none) fun v6 => .op (.app 4 48 v5 v6) fun v7 => .op (.len 0 v7) fun v8 => .op (.slc 4 v7 (some v8) (some v4) none) fun v9 => .op (.clr 4 [AV.int .i64 0, AV.int .i64 0, AV.int .i64 0, AV.nils] v9) fun v10 => .fin [.val v7])
theorem c_slices_Delete_Trail (x0 x1 x2 : AV) : CC Try.prog n_slices_Delete_Trail [x0, x1, x2] (p_slices_Delete_Trail x0 x1 x2) := cc Try.func178 [] (fun r => if r = 5 then [(0, []), (1, []), (2, []), (3, []), (4, []), (5, []), (6, []), (7, [])] else []) (by kernel_rfl)
/- impl.DropTrail -/
def p_impl_DropTrail (x0 x1 : AV) : Prog := .op (.call n_impl_copyStripes [x0]) fun v1 => .op (.len 0 x0) fun v2 => .op (.bin 0 .gtr v2 (AV.int .i64 0)) fun v3 => .scope (.ite v3 (.op (.len 0 x0) fun v4 => .op (.call n_impl_StripeOf [x1, v4]) fun v5 => .op (.idx 2 v1 v5) fun v6 => .op (.nilck v6) fun v7 => .op (.fad 1 v7) fun v8 => .op (.ld1 v8) fun v9 => .op (.call n_impl_TrailAt [v9, x1]) fun v10 => .op (.bin 0 .geq v10 (AV.int .i64 0)) fun v11 => .scope (.ite v11 (.op (.nilck v6) fun v12 => .op (.fad 1 v12) fun v13 => .op (.ld1 v13) fun v14 => .op (.bin 0 .add v10 (AV.int .i64 1)) fun v15 => .op (.call n_slices_Delete_Trail [v14, v10, v15]) fun v16 => .op (.nilck v6) fun v17 => .op (.fad 1 v17) fun v18 => .op (.st 1 v18 v16) fun v19 => .leaf 0 []) (.leaf 0 [])) (fun vs20 => .leaf 0 []) fun t21 vs20 => tsel t21 1 (.leaf 1 vs20) .bad) (.leaf 0 [])) (fun vs22 => .fin [.val v1]) fun t23 vs22 => tsel t23 1 (.leaf 1 vs22) .bad
theorem c_impl_DropTrail (x0 x1 : AV) : CC Try.prog n_impl_DropTrail [x0, x1] (p_impl_DropTrail x0 x1) := cc Try.func103 [5] (fun _ => []) (by kernel_rfl)
/- spec.DropTrail -/
def p_spec_DropTrail (x0 x1 : AV) : Prog := .op (.call n_spec_l11Copy [x0]) fun v1 => .op (.len 0 x0) fun v2 => .op (.bin 0 .eql v2 (AV.int .i64 0)) fun v3 => .ite v3 (.fin [.val v1]) (.op (.len 0 x0) fun v4 => .op (.call n_spec_StripeOf [x1, v4]) fun v5 => .op (.idx 2 x0 v5) fun v6 => .op (.fad 1 v6) fun v7 => .op (.ld1 v7) fun v8 => .op (.call n_spec_TrailAt [v8, x1]) fun v9 => .op (.bin 0 .geq v9 (AV.int .i64 0)) fun v10 => .scope (.ite v10 (.op (.idx 2 v1 v5) fun v11 => .op (.fad 1 v11) fun v12 => .op (.ld1 v12) fun v13 => .op (.slc 4 v13 none (some v9) none) fun v14 => .op (.idx 2 v1 v5) fun v15 => .op (.fad 1 v15) fun v16 => .op (.ld1 v16) fun v17 => .op (.bin 0 .add v9 (AV.int .i64 1)) fun v18 => .op (.slc 4 v17 (some v18) none none) fun v19 => .op (.app 4 48 v14 v19) fun v20 => .op (.idx 2 v1 v5) fun v21 => .op (.fad 1 v21) fun v22 => .op (.st 1 v22 v20) fun v23 => .leaf 0 []) (.leaf 0 [])) (fun vs24 => .fin [.val v1]) fun t25 vs24 => tsel t25 1 (.leaf 1 vs24) .bad)
theorem c_spec_DropTrail (x0 x1 : AV) : CC Try.prog n_spec_DropTrail [x0, x1] (p_spec_DropTrail x0 x1) := cc Try.func113 [5] (fun r => if r = 7 then [(0, []), (1, []), (2, []), (3, []), (4, []), (5, []), (6, []), (7, []), (8, []), (9, []), (10, []), (11, []), (12, []), (13, []), (14, []), (15, []), (16, []), (17, []), (18, []), (19, []), (20, [])] else []) (by kernel_rfl)
end
theorem s_slices_Delete_Trail {h : AH} {xs : List Trail} {v : AV} {F : List Nat} {i n : Nat} (r : SlRep h v xs F) (o : Own n h F) (hi : i < xs.length) :
    ACalls Try.prog n_slices_Delete_Trail [v, .int .i64 (i : Int), .int .i64 ((i + 1 : Nat) : Int)] h fun u h' => Kp h h' F ∧ ∃ F', SlRep h' u (xs.eraseIdx i) F' ∧ Own n h' F' ∧ ∀ c ∈ F', c ∈ F :=
  c_slices_Delete_Trail _ _ _ (Prog.awp_mono _ (del_spec (w := 4) rfl rfl r o hi) fun _ _ _ x => x)

noncomputable def dropT (l : List Stripe) (id : Int) : List Stripe := match l[(stripe id l.length).toNat]? with
  | none => l
  | some x => if idx (isId id) x.l < 0 then l else l.set (stripe id l.length).toNat { x with l := x.l.eraseIdx (idx (isId id) x.l).toNat }
theorem drop_none {l : List Stripe} {id : Int} (h : l.length = 0) : dropT l id = l := by
  unfold dropT; rw [List.getElem?_eq_none (by omega)]
theorem drop_no {l : List Stripe} {id : Int} {x : Stripe} (hx : l[(stripe id l.length).toNat]? = some x) (h : idx (isId id) x.l < 0) : dropT l id = l := by
  unfold dropT; rw [hx]; simp only; rw [if_pos h]
theorem drop_yes {l : List Stripe} {id : Int} {x : Stripe} (hx : l[(stripe id l.length).toNat]? = some x) (h : ¬ idx (isId id) x.l < 0) : dropT l id = l.set (stripe id l.length).toNat { x with l := x.l.eraseIdx (idx (isId id) x.l).toNat } := by
  unfold dropT; rw [hx]; simp only; rw [if_neg h]
section
variable {P : Program} {h : AH} {Q : Nat → List AV → AH → Prop} {k : AV → Prog}
theorem aw_nilck {b o : Nat} (hk : (k (.ptr b o)).awp P h Q) : (Prog.op (.nilck (.ptr b o)) k).awp P h Q := hk
end
theorem own_set {n : Nat} {h h' : AH} {b : Nat} {F1 Fi Fi' F2 : List Nat} (o : Own n h (b :: (F1 ++ (Fi ++ F2)))) (o' : Own n h' Fi') (hs : ∀ c ∈ Fi', c ∈ Fi) (hk : ∀ c ∈ b :: (F1 ++ F2), (h'.get c).st = (h.get c).st) : Own n h' (b :: (F1 ++ (Fi' ++ F2))) := by
  have hnd := List.nodup_cons.1 o.1
  have hnd2 := List.nodup_append.1 hnd.2
  have hnd3 := List.nodup_append.1 hnd2.2.1
  refine ⟨List.nodup_cons.2 ⟨fun hc => hnd.1 ?_, List.nodup_append.2 ⟨hnd2.1, List.nodup_append.2 ⟨o'.1, hnd3.2.1, fun a ha c hc e => hnd3.2.2 a (hs a ha) c hc e⟩, fun a ha c hc e => hnd2.2.2 a ha c ?_ e⟩⟩, fun c hc => ?_⟩
  · simp only [List.mem_append] at hc ⊢
    rcases hc with hc | hc | hc
    · exact .inl hc
    · exact .inr (.inl (hs _ hc))
    · exact .inr (.inr hc)
  · rcases List.mem_append.1 hc with hc | hc
    · exact List.mem_append_left _ (hs c hc)
    · exact List.mem_append_right _ hc
  · have hc2 : c ∈ b :: (F1 ++ F2) ∨ c ∈ Fi' := by
      simp only [List.mem_cons, List.mem_append] at hc ⊢
      rcases hc with hc | hc | hc | hc
      · exact .inl (.inl hc)
      · exact .inl (.inr (.inl hc))
      · exact .inr hc
      · exact .inl (.inr (.inr hc))
    rcases hc2 with hc2 | hc2
    · have hm : c ∈ b :: (F1 ++ (Fi ++ F2)) := by
        simp only [List.mem_cons, List.mem_append] at hc2 ⊢
        rcases hc2 with hc | hc | hc
        · exact .inl hc
        · exact .inr (.inl hc)
        · exact .inr (.inr (.inr hc))
      exact ⟨(o.2 c hm).1, by rw [hk c hc2]; exact (o.2 c hm).2⟩
    · exact o'.2 c hc2

theorem s_impl_DropTrail {h : AH} {l : List Stripe} {v : AV} {F : List Nat} {id : Int} (hs : l.length + szs l ≤ 67108864) (r : SlRep h v l F) : ACalls Try.prog n_impl_DropTrail [v, .int .i64 id] h (NewS Stripe h (dropT l id)) := by
  refine c_impl_DropTrail _ _ ?_
  unfold p_impl_DropTrail
  have hsm := r.small
  refine aw_call (s_impl_copyStripes l hs v F h r) ?_
  rintro w1 h1 ⟨e1, G1, q1, o1⟩
  refine aw_len r ?_
  refine br (fun hgt => ?_) (fun hle => ?_)
  · have hsb := stripe_b (t := id) (n := l.length) (by omega)
    obtain ⟨x, hx, -, -⟩ := drop_step (show (stripe id l.length).toNat < l.length by omega)
    have hm := szs_mem (List.mem_of_getElem? hx)
    have hx2 : Sz.sz x = x.l.length + szs x.l := rfl
    obtain ⟨b, off, A, E, R, F1, Fi, F2, rfl, rfl, hb, hl, hes, hcs, hA, ⟨vL, rfl, rL⟩, back⟩ := q1.zip hx
    have hmi : (h1.get b).st = 0 := (o1.2 b (by simp)).2
    have hg : h1.get b = ⟨A ++ (x.cs vL ++ R), 2, 0⟩ := by
      have : h1.get b = ⟨(h1.get b).cells, (h1.get b).es, (h1.get b).st⟩ := rfl
      rw [this, hcs, hes, hmi]; rfl
    have oL : Own h.n h1 Fi := own_mid o1
    have at1 : At h1 b (off + (stripe id l.length).toNat * 2) (x.cs vL) := at_z (es := 2) (st := 0) hb hl hcs hA
    have hbn : b ∉ F1 ++ (Fi ++ F2) := (List.nodup_cons.1 o1.1).1
    refine aw_scope (aw_ite_t (aw_len r (aw_rcall s_impl_StripeOf (aw_idx_i (by omega) (by omega) (aw_nilck ?_)))))
    (repeat' first|refine vs ?_|(refine br ?_ ?_<;>intro _<;>try(exfalso;first|omega|contradiction))|((with_reducible refine g_callf n_impl_TrailAt ?_);refine aw_rcall (s_impl_TrailAt slr_auto) ?_)|((with_reducible refine g_idx ?_);((first|refine ix ?_|refine ixi ?_|(refine ixg ?_;intro _ _)|(refine ixgi ?_;intro _ _));first|rintro _ _ _ _ _ ⟨rfl,rfl⟩ _|rintro _ _ _ _ _ ⟨_,rfl,_⟩ _|rintro _ _ _ _ _ ⟨_,_,_,_,rfl,rfl,_,_⟩ _|intro _ _ _ _ _ _ _))|(refine sx ?_;intro _ _)|((with_reducible refine g_awp ?_);simp only [g0,g1,g2]))
    · rename_i hge
      have hib := idx_b (isId id) x.l
      obtain ⟨i, hi⟩ : ∃ i : Nat, idx (isId id) x.l = i := ⟨(idx (isId id) x.l).toNat, by omega⟩
      rw [hi]
      refine aw_nilck ?_
      (repeat' first|refine vs ?_|(refine br ?_ ?_<;>intro _<;>try(exfalso;first|omega|contradiction))|((with_reducible refine g_idx ?_);((first|refine ix ?_|refine ixi ?_|(refine ixg ?_;intro _ _)|(refine ixgi ?_;intro _ _));first|rintro _ _ _ _ _ ⟨rfl,rfl⟩ _|rintro _ _ _ _ _ ⟨_,rfl,_⟩ _|rintro _ _ _ _ _ ⟨_,_,_,_,rfl,rfl,_,_⟩ _|intro _ _ _ _ _ _ _))|(refine sx ?_;intro _ _)|((with_reducible refine g_awp ?_);simp only [g0,g1,g2]))
      refine aw_call (s_slices_Delete_Trail rL oL (by omega)) ?_
      rintro u h2 ⟨k2, F', r2, o2, hsub⟩
      have hb2 : h2.get b = h1.get b := k2.2 b hb fun hc => hbn (by simp [hc])
      refine aw_nilck (aw_fad (w_stz (by rw [hb2]; exact hg) hA r2.cell rfl sp_auto ?_))
      (repeat' first|refine vs ?_|(refine br ?_ ?_<;>intro _<;>try(exfalso;first|omega|contradiction))|((with_reducible refine g_idx ?_);((first|refine ix ?_|refine ixi ?_|(refine ixg ?_;intro _ _)|(refine ixgi ?_;intro _ _));first|rintro _ _ _ _ _ ⟨rfl,rfl⟩ _|rintro _ _ _ _ _ ⟨_,rfl,_⟩ _|rintro _ _ _ _ _ ⟨_,_,_,_,rfl,rfl,_,_⟩ _|intro _ _ _ _ _ _ _))|(refine sx ?_;intro _ _)|((with_reducible refine g_awp ?_);simp only [g0,g1,g2]))
      have hd1 : ∀ c ∈ F1 ++ F2, c ∉ Fi ∧ c ≠ b ∧ c < h1.n := by
        have hnd := List.nodup_append.1 (List.nodup_cons.1 o1.1).2
        have hnd3 := List.nodup_append.1 hnd.2.1
        have hlt := q1.lt
        intro c hc
        rcases List.mem_append.1 hc with hc' | hc'
        · exact ⟨fun hf => hnd.2.2 c hc' c (List.mem_append_left _ hf) rfl, fun e => hbn (e ▸ List.mem_append_left _ hc'), hlt c (by simp [hc'])⟩
        · exact ⟨fun hf => hnd3.2.2 c hf c hc' rfl, fun e => hbn (e ▸ List.mem_append_right _ (List.mem_append_right _ hc')), hlt c (by simp [hc'])⟩
      have hbF : b ∉ F' := fun hc => hbn (by simp [hsub b hc])
      refine ⟨rfl, _, rfl, ?_, b :: (F1 ++ (F' ++ F2)), ?_, ?_⟩
      · refine Ext.upd (Kp.ext e1 k2 fun c hc => (oL.2 c hc).1) (o1.2 b (by simp)).1 _
      · rw [drop_yes hx (by omega), show (idx (isId id) x.l).toNat = i by omega]
        refine back _ { x with l := x.l.eraseIdx i } _ F' (by simp only [upd_get, if_true]; rfl) (by simp only [upd_get, if_true]; rfl) (by simp [live]) (by simpa using Nat.lt_of_lt_of_le hb k2.1) (fun c hc => ?_) ⟨u, rfl, ?_⟩
        · obtain ⟨d1, d2, d3⟩ := hd1 c hc
          exact ⟨by simp only [upd_get, d2, if_false]; exact k2.2 c d3 d1, by simpa using Nat.lt_of_lt_of_le d3 k2.1⟩
        · exact slr_upd1 r2 hbF
      · refine own_set o1 (o2.mono (Nat.le_refl _) fun c hc => by have : c ≠ b := fun e => hbF (e ▸ hc); simp [this]) hsub fun c hc => ?_
        rcases List.mem_cons.1 hc with rfl | hc
        · simp [hmi]
        · obtain ⟨d1, d2, d3⟩ := hd1 c hc
          simp only [upd_get, d2, if_false]; rw [k2.2 c d3 d1]
    · rename_i hlt
      exact ⟨rfl, _, rfl, e1, _, by rw [drop_no hx (by omega)]; exact q1, o1⟩
  · (repeat' first|refine vs ?_|(refine br ?_ ?_<;>intro _<;>try(exfalso;first|omega|contradiction))|((with_reducible refine g_idx ?_);((first|refine ix ?_|refine ixi ?_|(refine ixg ?_;intro _ _)|(refine ixgi ?_;intro _ _));first|rintro _ _ _ _ _ ⟨rfl,rfl⟩ _|rintro _ _ _ _ _ ⟨_,rfl,_⟩ _|rintro _ _ _ _ _ ⟨_,_,_,_,rfl,rfl,_,_⟩ _|intro _ _ _ _ _ _ _))|(refine sx ?_;intro _ _)|((with_reducible refine g_awp ?_);simp only [g0,g1,g2]))
    exact ⟨rfl, _, rfl, e1, _, by rw [drop_none (by omega)]; exact q1, o1⟩
theorem s_spec_DropTrail {h : AH} {l : List Stripe} {v : AV} {F : List Nat} {id : Int} (hs : l.length + szs l ≤ 67108864) (r : SlRep h v l F) : ACalls Try.prog n_spec_DropTrail [v, .int .i64 id] h (NewS Stripe h (dropT l id)) := by
  refine c_spec_DropTrail _ _ ?_
  unfold p_spec_DropTrail
  have hsm := r.small
  refine aw_call (s_spec_l11Copy l hs v F h r) ?_
  rintro w1 h1 ⟨e1, G1, q1, o1⟩
  refine aw_len r ?_
  refine br (fun h0 => ?_) (fun h0 => ?_)
  · (repeat' first|refine vs ?_|(refine br ?_ ?_<;>intro _<;>try(exfalso;first|omega|contradiction))|((with_reducible refine g_idx ?_);((first|refine ix ?_|refine ixi ?_|(refine ixg ?_;intro _ _)|(refine ixgi ?_;intro _ _));first|rintro _ _ _ _ _ ⟨rfl,rfl⟩ _|rintro _ _ _ _ _ ⟨_,rfl,_⟩ _|rintro _ _ _ _ _ ⟨_,_,_,_,rfl,rfl,_,_⟩ _|intro _ _ _ _ _ _ _))|(refine sx ?_;intro _ _)|((with_reducible refine g_awp ?_);simp only [g0,g1,g2]))
    exact ⟨rfl, _, rfl, e1, _, by rw [drop_none (by omega)]; exact q1, o1⟩
  · have hsb := stripe_b (t := id) (n := l.length) (by omega)
    obtain ⟨x, hx, -, -⟩ := drop_step (show (stripe id l.length).toNat < l.length by omega)
    have hm := szs_mem (List.mem_of_getElem? hx)
    have hx2 : Sz.sz x = x.l.length + szs x.l := rfl
    refine aw_ite_f (aw_len r (aw_rcall s_spec_StripeOf (aw_idxi r (by omega) hx rfl ?_)))
    rintro b0 o0 _ Fi0 a0 ⟨v0, rfl, r0⟩ _
    refine vs ?_
    refine aw_rcall (s_spec_TrailAt slr_auto) ?_
    refine br (fun hge => ?_) (fun hlt => ?_)
    · have hib := idx_b (isId id) x.l
      obtain ⟨i, hi⟩ : ∃ i : Nat, idx (isId id) x.l = i := ⟨(idx (isId id) x.l).toNat, by omega⟩
      have hil : i < x.l.length := by omega
      rw [hi]
      obtain ⟨b, off, A, E, R, F1, Fi, F2, rfl, rfl, hb, hl, hes, hcs, hA, ⟨vL, rfl, rL⟩, back⟩ := q1.zip hx
      have hmi : (h1.get b).st = 0 := (o1.2 b (by simp)).2
      have hg : h1.get b = ⟨A ++ (x.cs vL ++ R), 2, 0⟩ := by
        have : h1.get b = ⟨(h1.get b).cells, (h1.get b).es, (h1.get b).st⟩ := rfl
        rw [this, hcs, hes, hmi]; rfl
      have oL : Own h.n h1 Fi := own_mid o1
      have at1 : At h1 b (off + (stripe id l.length).toNat * 2) (x.cs vL) := at_z (es := 2) (st := 0) hb hl hcs hA
      have hbn : b ∉ F1 ++ (Fi ++ F2) := (List.nodup_cons.1 o1.1).1
      obtain ⟨bL, offL, rfl, mL, esL, lenL, -, -⟩ := rL.top oL (by omega)
      refine vs ?_
      refine aw_idx_i (by omega) (by omega) ?_
      refine vs ?_
      refine aw_slc_hi (by decide) esL mL lenL (by omega) ?_
      refine aw_idx_i (by omega) (by omega) ?_
      refine vs ?_
      refine aw_slc_lo (by decide) esL mL lenL (by omega) ?_
      refine del_app (α := Trail) rL oL hil ?_
      intro h2 F' k2 r2 o2 hsub hn2
      have hb2 : h2.get b = h1.get b := k2.2 b hb fun hc => hbn (by simp [hc])
      refine aw_idx_i (by omega) (by omega) (aw_fad (w_stz (by rw [hb2]; exact hg) hA r2.cell rfl sp_auto ?_))
      (repeat' first|refine vs ?_|(refine br ?_ ?_<;>intro _<;>try(exfalso;first|omega|contradiction))|((with_reducible refine g_idx ?_);((first|refine ix ?_|refine ixi ?_|(refine ixg ?_;intro _ _)|(refine ixgi ?_;intro _ _));first|rintro _ _ _ _ _ ⟨rfl,rfl⟩ _|rintro _ _ _ _ _ ⟨_,rfl,_⟩ _|rintro _ _ _ _ _ ⟨_,_,_,_,rfl,rfl,_,_⟩ _|intro _ _ _ _ _ _ _))|(refine sx ?_;intro _ _)|((with_reducible refine g_awp ?_);simp only [g0,g1,g2]))
      have hd1 : ∀ c ∈ F1 ++ F2, c ∉ Fi ∧ c ≠ b ∧ c < h1.n := by
        have hnd := List.nodup_append.1 (List.nodup_cons.1 o1.1).2
        have hnd3 := List.nodup_append.1 hnd.2.1
        have hlt := q1.lt
        intro c hc
        rcases List.mem_append.1 hc with hc' | hc'
        · exact ⟨fun hf => hnd.2.2 c hc' c (List.mem_append_left _ hf) rfl, fun e => hbn (e ▸ List.mem_append_left _ hc'), hlt c (by simp [hc'])⟩
        · exact ⟨fun hf => hnd3.2.2 c hf c hc' rfl, fun e => hbn (e ▸ List.mem_append_right _ (List.mem_append_right _ hc')), hlt c (by simp [hc'])⟩
      have hbF : b ∉ F' := fun hc => hbn (by simp [hsub b hc])
      refine ⟨rfl, _, rfl, ?_, b :: (F1 ++ (F' ++ F2)), ?_, ?_⟩
      · refine Ext.upd (Kp.ext e1 k2 fun c hc => (oL.2 c hc).1) (o1.2 b (by simp)).1 _
      · rw [drop_yes hx (by omega), show (idx (isId id) x.l).toNat = i by omega]
        refine back _ { x with l := x.l.eraseIdx i } _ F' (by simp only [upd_get, if_true]; rfl) (by simp only [upd_get, if_true]; rfl) (by simp [live]) (by simpa using Nat.lt_of_lt_of_le hb k2.1) (fun c hc => ?_) ⟨_, rfl, ?_⟩
        · obtain ⟨d1, d2, d3⟩ := hd1 c hc
          exact ⟨by simp only [upd_get, d2, if_false]; exact k2.2 c d3 d1, by simpa using Nat.lt_of_lt_of_le d3 k2.1⟩
        · exact slr_upd1 r2 hbF
      · refine own_set o1 (o2.mono (Nat.le_refl _) fun c hc => by have : c ≠ b := fun e => hbF (e ▸ hc); simp [this]) hsub fun c hc => ?_
        rcases List.mem_cons.1 hc with rfl | hc
        · simp [hmi]
        · obtain ⟨d1, d2, d3⟩ := hd1 c hc
          simp only [upd_get, d2, if_false]; rw [k2.2 c d3 d1]
    · (repeat' first|refine vs ?_|(refine br ?_ ?_<;>intro _<;>try(exfalso;first|omega|contradiction))|((with_reducible refine g_idx ?_);((first|refine ix ?_|refine ixi ?_|(refine ixg ?_;intro _ _)|(refine ixgi ?_;intro _ _));first|rintro _ _ _ _ _ ⟨rfl,rfl⟩ _|rintro _ _ _ _ _ ⟨_,rfl,_⟩ _|rintro _ _ _ _ _ ⟨_,_,_,_,rfl,rfl,_,_⟩ _|intro _ _ _ _ _ _ _))|(refine sx ?_;intro _ _)|((with_reducible refine g_awp ?_);simp only [g0,g1,g2]))
      exact ⟨rfl, _, rfl, e1, _, by rw [drop_no hx (by omega)]; exact q1, o1⟩
end Go.Proofs.Ytpcgbddmdipfbaa
