/- What is drawn: stripes. -/
import Derived.Test.YtpcgbddmdipfbaaW57
import Derived.Test.YtpcgbddmdipfbaaW14
import Derived.Test.YtpcgbddmdipfbaaAb53
set_option linter.unusedSimpArgs false
set_option linter.unusedVariables false
set_option maxHeartbeats 4000000
namespace Go.Proofs.Ytpcgbddmdipfbaa
open Go Go.Ab
section
/- spec.l11Draw -/
def p_spec_l11Draw (x0 : AV) : Prog := .op (.call n_spec_l1Below [x0, AV.int .i64 3]) fun v1 => .op (.bin 0 .add (AV.int .i64 1) v1) fun v2 => .op (.bslice 2 0 [] []) fun v3 => .loop [v3, AV.int .i64 0] (fun vs4 => .op (.bin 0 .lss (g vs4 1) v2) fun v6 => .ite v6 (.op (.bslice 1 4 [AV.int .i64 0, AV.int .i64 0, AV.int .i64 0, AV.int .i64 0] [(0, 1, AV.int .i64 (-1)), (1, 1, AV.int .i64 (-1)), (2, 1, AV.int .i64 0), (3, 1, AV.int .i64 3)]) fun v7 => .op (.call n_spec_l1Int [x0, v7]) fun v8 => .op (.build [AV.int .i64 0, AV.nils] [(0, 1, v8)]) fun v9 => .op (.bslice 2 1 [AV.int .i64 0, AV.nils] [(0, 2, v9)]) fun v10 => .op (.app 2 32 (g vs4 0) v10) fun v11 => .op (.bin 0 .add (g vs4 1) (AV.int .i64 1)) fun v12 => .leaf 0 [v11, v12]) (.leaf 2 [g vs4 0, g vs4 1])) fun t5 vs4 => tsel t5 1 (.leaf 1 vs4) (tsel t5 2 (.loop [AV.int .i64 1] (fun vs13 => .op (.bin 0 .lss (g vs13 0) (AV.int .i64 7)) fun v15 => .ite v15 (.op (.call n_spec_l1Once [x0, AV.int .i64 2]) fun v16 => .scope (.ite v16 (.op (.call n_spec_StripeOf [g vs13 0, v2]) fun v17 => .op (.idx 2 (g vs4 0) v17) fun v18 => .op (.fad 1 v18) fun v19 => .op (.ld1 v19) fun v20 => .op (.call n_spec_l10Draw [x0, g vs13 0, g vs13 0]) fun v21 => .chk (.ld1 v19) v20 (.op (.bslice 4 1 [AV.int .i64 0, AV.int .i64 0, AV.int .i64 0, AV.nils] [(0, 4, v21)]) fun v22 => .op (.app 4 48 v20 v22) fun v23 => .op (.idx 2 (g vs4 0) v17) fun v24 => .op (.fad 1 v24) fun v25 => .op (.st 1 v25 v23) fun v26 => .leaf 0 [])) (.leaf 0 [])) (fun vs27 => .op (.bin 0 .add (g vs13 0) (AV.int .i64 1)) fun v29 => .leaf 0 [v29]) fun t28 vs27 => tsel t28 1 (.leaf 1 vs27) .bad) (.leaf 4 [g vs13 0])) fun t14 vs13 => tsel t14 1 (.leaf 1 vs13) (tsel t14 4 (.fin [.val (g vs4 0)]) .bad)) .bad)
theorem c_spec_l11Draw (x0 : AV) : CC Try.prog n_spec_l11Draw [x0] (p_spec_l11Draw x0) := cc Try.func212 [0, 3, 4, 5, 6] (fun r => if r = 12 then [(0, []), (1, []), (2, []), (3, []), (4, []), (5, []), (6, []), (7, []), (8, []), (9, []), (10, [6]), (11, []), (12, []), (13, []), (14, []), (15, [])] else []) (by kernel_rfl)
/- spec.l11Any -/
def p_spec_l11Any (x0 : AV) : Prog := .op (.call n_spec_l11Draw [x0]) fun v1 => .op (.len 0 v1) fun v2 => .op (.call n_spec_l1Below [x0, v2]) fun v3 => .op (.call n_spec_l1Below [x0, AV.int .i64 12]) fun v4 => .op (.bin 0 .eql v4 (AV.int .i64 0)) fun v5 => .scope (.ite v5 (.op (.bslice 1 3 [AV.int .i64 0, AV.int .i64 0, AV.int .i64 0] [(0, 1, AV.int .i64 (-2)), (1, 1, AV.int .i64 4), (2, 1, AV.int .i64 5)]) fun v6 => .op (.call n_spec_l1Int [x0, v6]) fun v7 => .op (.idx 2 v1 v3) fun v8 => .op (.fad 0 v8) fun v9 => .op (.st 1 v9 v7) fun v10 => .leaf 0 [v1]) (.op (.bin 0 .eql v4 (AV.int .i64 1)) fun v11 => .scope (.ite v11 (.op (.idx 2 v1 v3) fun v12 => .op (.fad 1 v12) fun v13 => .op (.ld1 v13) fun v14 => .op (.call n_spec_l10Any [x0]) fun v15 => .chk (.ld1 v13) v14 (.op (.bslice 4 1 [AV.int .i64 0, AV.int .i64 0, AV.int .i64 0, AV.nils] [(0, 4, v15)]) fun v16 => .op (.app 4 48 v14 v16) fun v17 => .op (.idx 2 v1 v3) fun v18 => .op (.fad 1 v18) fun v19 => .op (.st 1 v19 v17) fun v20 => .leaf 0 [v1])) (.op (.bin 0 .eql v4 (AV.int .i64 2)) fun v21 => .scope (.ite v21 (.op (.build [AV.int .i64 0, AV.nils] [(0, 1, AV.int .i64 (-1))]) fun v22 => .op (.build [AV.int .i64 0, AV.nils] [(0, 1, AV.int .i64 (-1))]) fun v23 => .op (.bslice 2 2 [AV.int .i64 0, AV.nils, AV.int .i64 0, AV.nils] [(0, 2, v22), (2, 2, v23)]) fun v24 => .op (.app 2 32 v1 v24) fun v25 => .leaf 0 [v25]) (.op (.bin 0 .eql v4 (AV.int .i64 3)) fun v26 => .scope (.ite v26 (.op (.bslice 2 0 [] []) fun v27 => .leaf 0 [v27]) (.leaf 0 [v1])) (fun vs28 => .leaf 0 [g vs28 0]) fun t29 vs28 => tsel t29 1 (.leaf 1 vs28) .bad)) (fun vs30 => .leaf 0 [g vs30 0]) fun t31 vs30 => tsel t31 1 (.leaf 1 vs30) .bad)) (fun vs32 => .leaf 0 [g vs32 0]) fun t33 vs32 => tsel t33 1 (.leaf 1 vs32) .bad)) (fun vs34 => .fin [.val (g vs34 0)]) fun t35 vs34 => tsel t35 1 (.leaf 1 vs34) .bad
theorem c_spec_l11Any (x0 : AV) : CC Try.prog n_spec_l11Any [x0] (p_spec_l11Any x0) := cc Try.func176 [3] (fun r => if r = 7 then [(0, []), (1, []), (2, []), (3, []), (4, []), (5, []), (6, []), (7, []), (8, [6]), (9, []), (10, []), (11, []), (12, []), (13, [])] else []) (by kernel_rfl)
end
/-- A stripe of any kind. -/
def seA (k : Nat) (x : Stripe) : Prop := (-1000000 ≤ x.held ∧ x.held ≤ 1000000) ∧ x.l.length ≤ k ∧ ∀ t ∈ x.l, trA t
theorem seA_ok {k : Nat} {x : Stripe} (h : seA k x) : Cel.ok x := ⟨⟨by have := h.1; omega, by have := h.1; omega⟩, fun t ht => trA_ok (h.2.2 t ht)⟩
theorem seA_sz {k : Nat} {x : Stripe} (h : seA k x) : Sz.sz x ≤ 6001 * k := by
  have h1 := szs_le (m := 6000) fun t ht => trA_sz (h.2.2 t ht)
  have h2 := h.2.1
  show x.l.length + szs x.l ≤ _
  have : x.l.length * 6000 ≤ k * 6000 := Nat.mul_le_mul_right _ h2
  omega
theorem seA_mono {j k : Nat} {x : Stripe} (hk : j ≤ k) (h : seA j x) : seA k x := ⟨h.1, Nat.le_trans h.2.1 hk, h.2.2⟩
theorem set_mem {α : Type} {p : α → Prop} {l : List α} {i : Nat} {a : α} (h : ∀ x ∈ l, p x) (ha : p a) : ∀ x ∈ l.set i a, p x := fun x hx => by
  rcases List.mem_or_eq_of_mem_set hx with e | e
  · exact h x e
  · rw [e]; exact ha
theorem s_spec_l11Draw {h : AH} {c : Nat} (cu : Cur h c) : ACalls Try.prog n_spec_l11Draw [.ptr c 0] h (DrS Stripe h c fun l => (1 ≤ l.length ∧ l.length ≤ 3) ∧ ∀ x ∈ l, seA 6 x) := by
  have lc := cu.lt
  refine c_spec_l11Draw _ ?_
  unfold p_spec_l11Draw
  (repeat' first|refine vs0 ?_|((with_reducible refine g_callf n_spec_l1Below ?_);(refine aw_call (s_spec_l1Below cur_auto (by omega) (by omega)) ?_; rintro _ h2 ⟨x, rfl, hx0, hx1, k2, cu2⟩; have n2 := k2.1; (try simp only [push_n, upd_n] at n2)))|((with_reducible refine g_idx ?_);((first|refine ix ?_|refine ixi ?_|(refine ixg ?_;intro _ _)|(refine ixgi ?_;intro _ _));first|rintro _ _ _ _ _ ⟨rfl,rfl⟩ _|rintro _ _ _ _ _ ⟨_,rfl,_⟩ _|rintro _ _ _ _ _ ⟨_,_,_,_,rfl,rfl,_,_⟩ _|intro _ _ _ _ _ _ _))|(refine sx ?_;intro _ _)|((with_reducible refine g_awp ?_);simp only [g0,g1,g2]))
  obtain ⟨x, rfl⟩ : ∃ j : Nat, x = (j : Int) := ⟨x.toNat, by omega⟩
  have en : (1 + (x : Int)) = ((x + 1 : Nat) : Int) := by omega
  rw [en]
  obtain ⟨N, hN⟩ : ∃ N, N = x + 1 := ⟨_, rfl⟩
  rw [← hN]
  obtain ⟨re, oe⟩ := empty_own (h := h2) (α := Stripe) (w := 2) rfl
  have K2 : Kp h (h2.push ⟨[], 2, 0⟩) [c] := kp_auto
  have C2 : Cur (h2.push ⟨[], 2, 0⟩) c := cur_auto
  refine aw_upto N (fun i vs h3 => ∃ u xs G, vs = [u, .int .i64 (i : Int)] ∧ i ≤ N ∧ xs.length = i ∧ Kp h h3 [c] ∧ Cur h3 c ∧ SlRep (α := Stripe) h3 u xs G ∧ Own h.n h3 G ∧ ∀ x ∈ xs, seA 0 x) ⟨_, [], _, rfl, Nat.zero_le _, rfl, K2, C2, re, oe _ (by omega), by simp⟩ ?_
  clear K2 C2 re oe k2 cu2 n2
  rintro i vs h3 _ ⟨u, xs, G, rfl, hi, hlen, k3, cu3, ru, ou, hd⟩
  have n3 := k3.1
  simp only [g0, g1]
  refine br (fun q => ?_) (fun q => ?_)
  · (repeat' first|refine vs0 ?_|((with_reducible refine g_callf n_spec_l1Int ?_);(refine aw_call (s_spec_l1Int cur_auto bk_auto om_auto (by rfl) (by decide) (by decide) iv_auto) ?_; rintro _ h2 ⟨x, rfl, hx0, hx1, k2, cu2⟩; have n2 := k2.1; (try simp only [push_n, upd_n] at n2)))|((with_reducible refine g_idx ?_);((first|refine ix ?_|refine ixi ?_|(refine ixg ?_;intro _ _)|(refine ixgi ?_;intro _ _));first|rintro _ _ _ _ _ ⟨rfl,rfl⟩ _|rintro _ _ _ _ _ ⟨_,rfl,_⟩ _|rintro _ _ _ _ _ ⟨_,_,_,_,rfl,rfl,_,_⟩ _|intro _ _ _ _ _ _ _))|(refine sx ?_;intro _ _)|((with_reducible refine g_awp ?_);simp only [g0,g1,g2]))
    have nc : c ∉ G := nin_own ou (by omega)
    have ru2 : SlRep h2 u xs G := slr_auto
    have ou2 : Own h.n h2 G := (ol_kp1 k2 (ol_push1 (ol_mk ou ru (Nat.le_refl _))) (dis_one nc)).1
    have kk : Kp h h2 [c] := kp_auto
    refine app1F (n := h.n) (xs := xs) (Fx := G) (a := (⟨x, []⟩ : Stripe)) (cs := [.int .i64 x, .nils]) (G := []) ru2 ⟨.nils, rfl, SlRep.nils⟩ (by rw [List.append_nil]; exact ou2) (by omega) rfl (by omega) (by omega) ?_
    intro u' h5 F5 _ k5 r5 o5 w5
    have cu5 : Cur h5 c := cur_kp1 k5 cu2 fun z hz => by have := (ou2.2 z hz).1; omega
    have e5 : Kp h h5 [c] := kp_stepN k5 kk fun z hz => (ou2.2 z hz).1
    refine vs ?_
    refine ⟨by omega, u', _, F5, rfl, by omega, by simp [hlen], e5, cu5, r5, o5, fun z hz => ?_⟩
    rcases List.mem_append.1 hz with g | g
    · exact hd z g
    · rw [List.mem_singleton.1 g]; exact ⟨⟨by show -1000000 ≤ x; omega, by show x ≤ 1000000; omega⟩, by simp, by simp⟩
  · have hiN : i = N := by omega
    subst hiN
    refine vs ?_
    refine aw_loop (fun n vs h4 => ∃ ys F, vs = [.int .i64 (7 - (n : Int))] ∧ n ≤ 6 ∧ ys.length = i ∧ Kp h h4 [c] ∧ Cur h4 c ∧ SlRep (α := Stripe) h4 u ys F ∧ Own h.n h4 F ∧ ∀ x ∈ ys, seA (6 - n) x) 6 ⟨xs, G, rfl, Nat.le_refl _, hlen, k3, cu3, ru, ou, fun z hz => seA_mono (Nat.zero_le _) (hd z hz)⟩ ?_
    clear ru ou hd k3 cu3 n3 hlen
    rintro n vs h4 ⟨ys, F, rfl, hn, hlen, k4, cu4, ru, ou, hd⟩
    have n4 := k4.1
    simp only [g0]
    refine br (fun q2 => ?_) (fun q2 => ?_)
    · have en : ((7 : Int) - (n : Int) + 1) = 7 - ((n - 1 : Nat) : Int) := by omega
      (repeat' first|refine vs0 ?_|((with_reducible refine g_callf n_spec_l1Once ?_);(refine aw_call (s_spec_l1Once cur_auto (by omega) (by omega)) ?_; rintro _ h2 ⟨b, rfl, k2, cu2⟩; have n2 := k2.1; (try simp only [push_n, upd_n] at n2); cases b))|((with_reducible refine g_idx ?_);((first|refine ix ?_|refine ixi ?_|(refine ixg ?_;intro _ _)|(refine ixgi ?_;intro _ _));first|rintro _ _ _ _ _ ⟨rfl,rfl⟩ _|rintro _ _ _ _ _ ⟨_,rfl,_⟩ _|rintro _ _ _ _ _ ⟨_,_,_,_,rfl,rfl,_,_⟩ _|intro _ _ _ _ _ _ _))|(refine sx ?_;intro _ _)|((with_reducible refine g_awp ?_);simp only [g0,g1,g2]))
      · have nc : c ∉ F := nin_own ou (by omega)
        refine vs ?_
        refine ⟨n - 1, by omega, ys, F, by rw [en], by omega, hlen, kp_auto, cur_auto, slr_kp1 k2 ru (dis_one nc), (ol_kp1 k2 (ol_mk ou ru (Nat.le_refl _)) (dis_one nc)).1, fun z hz => seA_mono (by omega) (hd z hz)⟩
      · have nc : c ∉ F := nin_own ou (by omega)
        have ru2 : SlRep h2 u ys F := slr_kp1 k2 ru (dis_one nc)
        have ou2 : Own h.n h2 F := (ol_kp1 k2 (ol_mk ou ru (Nat.le_refl _)) (dis_one nc)).1
        have kk2 : Kp h h2 [c] := kp_auto
        have hsb := stripe_b (t := 7 - (n : Int)) (n := (i : Int)) (by omega)
        obtain ⟨j, hj⟩ : ∃ j : Nat, stripe (7 - (n : Int)) i = (j : Int) := ⟨(stripe (7 - (n : Int)) i).toNat, by omega⟩
        obtain ⟨y, hy, -, -⟩ := drop_step (show j < ys.length by omega)
        have hyA := hd y (List.mem_of_getElem? hy)
        obtain ⟨b, off, E, Fi, R, rfl, ⟨vL, rfl, rL⟩, oL, el, dF, mR, mF⟩ := ru2.elt ou2 hy
        have a2 : At h2 b (off + j * 2) [.int .i64 y.held, vL] := el.at_
        refine vs ?_
        refine aw_rcall s_spec_StripeOf ?_
        rw [hj]
        refine aw_idx_raw (by omega) ?_
        refine vs ?_
        refine aw_call (s_spec_l10Draw cu2 ⟨by omega, by omega⟩ ⟨by omega, by omega⟩) ?_
        rintro _ h5 ⟨t, _, G5, rfl, ⟨w5, rfl, r5⟩, o5, k5, cu5, hd5⟩
        have n5 := k5.1
        have ncR : ∀ z ∈ R, z ∉ [c] := fun z hz hm => nc (List.mem_singleton.1 hm ▸ mR z hz)
        have ncF : ∀ z ∈ Fi, z ∉ [c] := fun z hz hm => nc (List.mem_singleton.1 hm ▸ mF z hz)
        have el5 := el.kp k5 ncR
        have a5 : At h5 b (off + j * 2) [.int .i64 y.held, vL] := el5.at_
        have rL5 := slr_kp1 k5 rL ncF
        have oL5 : Own h.n h5 Fi := (ol_kp1 k5 oL ncF).1
        have dFG : ∀ z ∈ Fi, z ∉ G5 := fun z hz hg => by have := oL.2 z hz; have := (o5.2 z hg).1; omega
        have dRG : ∀ z ∈ R, z ∉ G5 := fun z hz hg => by have := el.own.2 z hz; have := (o5.2 z hg).1; omega
        refine vs ?_
        refine app1F (n := h.n) (xs := y.l) (Fx := Fi) (a := t) (cs := t.cs w5) (G := G5) rL5 ⟨w5, rfl, r5⟩ (own_app oL5 (o5.mono (by omega) fun _ _ => rfl) (Nat.le_refl _) dFG) (by omega) rfl (by have := hyA.2.1; omega) (by have := hyA.2.1; omega) ?_
        intro u' h6 F6 _ k6 r6 o6 w6
        have n6 := k6.1
        have el6 := el5.kp k6 fun z hz hf => dF z hf hz
        have cu6 : Cur h6 c := cur_kp1 k6 cu5 fun z hz => by have := (oL5.2 z hz).1; omega
        have kk6 : Kp h h6 [c] := kp_stepN k6 (kk2.trans k5) fun z hz => (oL5.2 z hz).1
        refine aw_idx_raw (by omega) ?_
        refine vs ?_
        refine el6.st_ (j := 1) r6.cell rfl sp_auto ?_
        intro h7 el7 k7 n7
        have mb : b ∈ R := el.mem
        have dR6 : ∀ z ∈ F6, z ∉ R := fun z hz hR => by
          rcases w6 z hz with g | g | g
          · exact dF z g hR
          · exact dRG z hR g
          · have := el5.own.2 z hR; omega
        have nb6 : ∀ z ∈ F6, z ∉ [b] := fun z hz hm => dR6 z hz (List.mem_singleton.1 hm ▸ mb)
        have el7 : Elt Stripe h.n h7 b (off + j * 2) (Stripe.cs { y with l := y.l ++ [t] } u') (.sl b off ys.length) ys j R := el7
        have hbn : h.n ≤ b := (el.own.1.2 b mb).1
        obtain ⟨F8, q8, o8, -⟩ := el7.done (x' := { y with l := y.l ++ [t] }) ⟨u', rfl, slr_kp1 k7 r6 nb6⟩ (ol_kp1 k7 ⟨o6, r6.lt⟩ nb6).1 dR6
        have cu7 : Cur h7 c := cur_kp1 k7 cu6 fun z hz => by rw [List.mem_singleton.1 hz]; omega
        have kk7 : Kp h h7 [c] := kp_stepN k7 kk6 fun z hz => by rw [List.mem_singleton.1 hz]; exact hbn
        refine vs ?_
        refine ⟨n - 1, by omega, _, F8, by rw [en], by omega, by simp [hlen], kk7, cu7, q8, o8, ?_⟩
        refine set_mem (fun z hz => seA_mono (by omega) (hd z hz)) ⟨hyA.1, ?_, fun z hz => ?_⟩
        · have := hyA.2.1
          simp only [List.length_append, List.length_singleton]; omega
        · rcases List.mem_append.1 hz with g | g
          · exact hyA.2.2 z g
          · rw [List.mem_singleton.1 g]; exact tlD_A ⟨by omega, by omega⟩ ⟨by omega, by omega⟩ hd5
    · refine vs ?_
      exact ⟨rfl, _, rfl, ys, F, ru, ou, k4, cu4, by omega, fun z hz => seA_mono (by omega) (hd z hz)⟩
theorem s_spec_l11Any {h : AH} {c : Nat} (cu : Cur h c) : ACalls Try.prog n_spec_l11Any [.ptr c 0] h (DrS Stripe h c fun l => l.length ≤ 5 ∧ ∀ x ∈ l, seA 7 x) := by
  have lc := cu.lt
  refine c_spec_l11Any _ ?_
  unfold p_spec_l11Any
  refine aw_call (s_spec_l11Draw cu) ?_
  rintro u h1 ⟨xs, G, ru, ou, k1, cu1, ⟨hl1, hl3⟩, hd⟩
  have n1 := k1.1
  have nc : c ∉ G := nin_own ou lc
  refine aw_len ru ?_
  (repeat' first|refine vs0 ?_|((with_reducible refine g_callf n_spec_l1Below ?_);(refine aw_call (s_spec_l1Below cur_auto (by omega) (by omega)) ?_; rintro _ h2 ⟨x, rfl, hx0, hx1, k2, cu2⟩; have n2 := k2.1; (try simp only [push_n, upd_n] at n2)))|((with_reducible refine g_idx ?_);((first|refine ix ?_|refine ixi ?_|(refine ixg ?_;intro _ _)|(refine ixgi ?_;intro _ _));first|rintro _ _ _ _ _ ⟨rfl,rfl⟩ _|rintro _ _ _ _ _ ⟨_,rfl,_⟩ _|rintro _ _ _ _ _ ⟨_,_,_,_,rfl,rfl,_,_⟩ _|intro _ _ _ _ _ _ _))|(refine sx ?_;intro _ _)|((with_reducible refine g_awp ?_);simp only [g0,g1,g2]))
  rename_i hA y hy0 hy1 kA cuA nA
  obtain ⟨j, rfl⟩ : ∃ j : Nat, y = (j : Int) := ⟨y.toNat, by omega⟩
  have ru2 : SlRep h2 u xs G := slr_auto
  have ou2 : Own h.n h2 G := (ol_kp1 k2 (ol_kp1 kA (ol_mk ou ru (Nat.le_refl _)) (dis_one nc)) (dis_one nc)).1
  have kk2 : Kp h h2 [c] := kp_auto
  obtain ⟨z, hz, -, -⟩ := drop_step (show j < xs.length by omega)
  have hzA := hd z (List.mem_of_getElem? hz)
  obtain ⟨b, off, E, Fi, R, hu, ⟨vL, rfl, rL⟩, oL, el, dF, mR, mF⟩ := ru2.elt ou2 hz
  have ncR : ∀ z ∈ R, z ∉ [c] := fun z hz hm => nc (List.mem_singleton.1 hm ▸ mR z hz)
  have ncF : ∀ z ∈ Fi, z ∉ [c] := fun z hz hm => nc (List.mem_singleton.1 hm ▸ mF z hz)
  have mb : b ∈ R := el.mem
  have hbn : h.n ≤ b := (el.own.1.2 b mb).1
  refine br (fun q => ?_) (fun q => ?_)
  · refine aw_scope (aw_ite_t ?_)
    refine vs0 ?_
    (refine aw_call (s_spec_l1Int cur_auto bk_auto om_auto (by rfl) (by decide) (by decide) iv_auto) ?_; rintro _ h2 ⟨x, rfl, hx0, hx1, k2, cu2⟩; have n2 := k2.1; (try simp only [push_n, upd_n] at n2))
    subst hu
    refine aw_idx_raw (by omega) ?_
    refine vs0 ?_
    have el5 := (el.push ⟨[.int .i64 (-2), .int .i64 4, .int .i64 5], 1, 0⟩).kp k2 ncR
    have rL5 := slr_kp1 k2 (slr_push1 (k := ⟨[.int .i64 (-2), .int .i64 4, .int .i64 5], 1, 0⟩) rL) ncF
    have oL5 : OwnL h.n h2 Fi := ol_kp1 k2 (ol_push1 (k := ⟨[.int .i64 (-2), .int .i64 4, .int .i64 5], 1, 0⟩) oL) ncF
    refine el5.st0 (E' := [.int .i64 x, vL]) rfl rfl sp_auto ?_
    intro h7 el7 k7 n7
    have nbF : ∀ z ∈ Fi, z ∉ [b] := fun z hz hm => dF z hz (List.mem_singleton.1 hm ▸ mb)
    obtain ⟨F8, q8, o8, -⟩ := el7.done (x' := { z with held := x }) ⟨vL, rfl, slr_kp1 k7 rL5 nbF⟩ (ol_kp1 k7 oL5 nbF).1 dF
    have cu7 : Cur h7 c := cur_kp1 k7 cu2 fun z hz => by rw [List.mem_singleton.1 hz]; omega
    have kk7 : Kp h h7 [c] := kp_stepN k7 kp_auto fun z hz => by rw [List.mem_singleton.1 hz]; exact hbn
    refine vs ?_
    refine ⟨rfl, _, rfl, _, F8, q8, o8, kk7, cu7, by simp; omega, ?_⟩
    exact set_mem (fun z hz => seA_mono (by omega) (hd z hz)) ⟨⟨by show -1000000 ≤ x; omega, by show x ≤ 1000000; omega⟩, by have := hzA.2.1; show z.l.length ≤ 7; omega, hzA.2.2⟩
  refine aw_scope (aw_ite_f ?_)
  refine br (fun q1 => ?_) (fun q1 => ?_)
  · refine aw_scope (aw_ite_t ?_)
    subst hu
    refine aw_idx_raw (by omega) ?_
    have a2 : At h2 b (off + j * 2) [.int .i64 z.held, vL] := el.at_
    refine vs0 ?_
    refine aw_call (s_spec_l10Any cu2) ?_
    rintro _ h5 ⟨t, _, G5, rfl, ⟨w5, rfl, r5⟩, o5, k5, cu5, hd5⟩
    have n5 := k5.1
    have el5 := el.kp k5 ncR
    have a5 : At h5 b (off + j * 2) [.int .i64 z.held, vL] := el5.at_
    have rL5 := slr_kp1 k5 rL ncF
    have oL5 : Own h.n h5 Fi := (ol_kp1 k5 oL ncF).1
    have dFG : ∀ z ∈ Fi, z ∉ G5 := fun z hz hg => by have := oL.2 z hz; have := (o5.2 z hg).1; omega
    have dRG : ∀ z ∈ R, z ∉ G5 := fun z hz hg => by have := el.own.2 z hz; have := (o5.2 z hg).1; omega
    refine vs0 ?_
    refine app1F (n := h.n) (xs := z.l) (Fx := Fi) (a := t) (cs := t.cs w5) (G := G5) rL5 ⟨w5, rfl, r5⟩ (own_app oL5 (o5.mono (by omega) fun _ _ => rfl) (Nat.le_refl _) dFG) (by omega) rfl (by have := hzA.2.1; omega) (by have := hzA.2.1; omega) ?_
    intro u' h6 F6 _ k6 r6 o6 w6
    have n6 := k6.1
    have el6 := el5.kp k6 fun z hz hf => dF z hf hz
    have cu6 : Cur h6 c := cur_kp1 k6 cu5 fun z hz => by have := (oL5.2 z hz).1; omega
    have kk6 : Kp h h6 [c] := kp_stepN k6 (kk2.trans k5) fun z hz => (oL5.2 z hz).1
    refine aw_idx_raw (by omega) ?_
    refine vs0 ?_
    refine el6.st_ (j := 1) r6.cell rfl sp_auto ?_
    intro h7 el7 k7 n7
    have dR6 : ∀ z ∈ F6, z ∉ R := fun z hz hR => by
      rcases w6 z hz with g | g | g
      · exact dF z g hR
      · exact dRG z hR g
      · have := el5.own.2 z hR; omega
    have nb6 : ∀ z ∈ F6, z ∉ [b] := fun z hz hm => dR6 z hz (List.mem_singleton.1 hm ▸ mb)
    have el7 : Elt Stripe h.n h7 b (off + j * 2) (Stripe.cs { z with l := z.l ++ [t] } u') (.sl b off xs.length) xs j R := el7
    obtain ⟨F8, q8, o8, -⟩ := el7.done (x' := { z with l := z.l ++ [t] }) ⟨u', rfl, slr_kp1 k7 r6 nb6⟩ (ol_kp1 k7 ⟨o6, r6.lt⟩ nb6).1 dR6
    have cu7 : Cur h7 c := cur_kp1 k7 cu6 fun z hz => by rw [List.mem_singleton.1 hz]; omega
    have kk7 : Kp h h7 [c] := kp_stepN k7 kk6 fun z hz => by rw [List.mem_singleton.1 hz]; exact hbn
    refine vs ?_
    refine ⟨rfl, _, rfl, _, F8, q8, o8, kk7, cu7, by simp; omega, ?_⟩
    refine set_mem (fun z hz => seA_mono (by omega) (hd z hz)) ⟨hzA.1, ?_, fun z hz => ?_⟩
    · have := hzA.2.1
      simp only [List.length_append, List.length_singleton]; omega
    · rcases List.mem_append.1 hz with g | g
      · exact hzA.2.2 z g
      · rw [List.mem_singleton.1 g]; exact hd5
  refine aw_scope (aw_ite_f ?_)
  refine br (fun q2 => ?_) (fun q2 => ?_)
  · refine aw_scope (aw_ite_t ?_)
    refine vs0 ?_
    have rr : SlRep (h2.push ⟨[.int .i64 (-1), .nils, .int .i64 (-1), .nils], 2, 0⟩) (.sl h2.n 0 2) [(⟨-1, []⟩ : Stripe), ⟨-1, []⟩] [h2.n] := slrep_push (n := 2) rfl (by decide) ⟨[.int .i64 (-1), .nils], [.int .i64 (-1), .nils], [], [], rfl, rfl, ⟨.nils, rfl, SlRep.nils⟩, [.int .i64 (-1), .nils], [], [], [], rfl, rfl, ⟨.nils, rfl, SlRep.nils⟩, rfl, rfl⟩
    refine aw_appF (n := h.n) (slr_push1 ru2) rr (by rw [List.tail_cons, List.append_nil]; exact (ol_push1 ⟨ou2, ru2.lt⟩).1) (by simp only [push_n]; omega) rfl (by simp; omega) (by simp; omega) ?_
    intro u' h6 F6 k6 r6 o6 w6
    have cu6 : Cur h6 c := cur_kp1 k6 (cur_push1 cu2) fun z hz => by have := (ou2.2 z hz).1; omega
    have kk6 : Kp h h6 [c] := kp_stepN k6 (kk2.push _) fun z hz => (ou2.2 z hz).1
    refine vs ?_
    refine ⟨rfl, _, rfl, _, F6, r6, o6, kk6, cu6, by simp; omega, fun z hz => ?_⟩
    rcases List.mem_append.1 hz with g | g
    · exact seA_mono (by omega) (hd z g)
    · simp only [List.mem_cons, List.not_mem_nil, or_false, or_self] at g
      rw [g]; exact ⟨⟨by show (-1000000 : Int) ≤ -1; omega, by show (-1 : Int) ≤ 1000000; omega⟩, by simp, by simp⟩
  refine aw_scope (aw_ite_f ?_)
  refine br (fun q3 => ?_) (fun q3 => ?_)
  · refine aw_scope (aw_ite_t ?_)
    obtain ⟨re, oe⟩ := empty_own (h := h2) (α := Stripe) (w := 2) rfl
    refine vs ?_
    exact ⟨rfl, _, rfl, [], _, re, oe _ (by omega), kp_auto, cur_auto, by simp, by simp⟩
  · refine aw_scope (aw_ite_f ?_)
    refine vs ?_
    exact ⟨rfl, _, rfl, xs, G, ru2, ou2, kk2, cu2, by omega, fun z hz => seA_mono (by omega) (hd z hz)⟩
end Go.Proofs.Ytpcgbddmdipfbaa
