/- A thing is added to trails. -/
import Derived.Test.YtpcgbddmdipfbaaW12
import Derived.Test.YtpcgbddmdipfbaaW55
import Derived.Test.YtpcgbddmdipfbaaAb51
import Derived.Test.YtpcgbddmdipfbaaAb52
set_option linter.unusedSimpArgs false
set_option linter.unusedVariables false
set_option maxHeartbeats 2000000
namespace Go.Proofs.Ytpcgbddmdipfbaa
open Go Go.Ab
section
/- impl.AddTo$1 -/
def p_impl_AddTo_1 (x0 x1 : AV) : Prog := .op (.box x0) fun v1 => .op (.fad 0 v1) fun v2 => .op (.ld1 v2) fun v3 => .op (.fad 0 x1) fun v4 => .op (.ld1 v4) fun v5 => .op (.bin 0 .gtr v3 v5) fun v6 => .fin [.val v6]
theorem c_impl_AddTo_1 (x0 x1 : AV) : CC Try.prog n_impl_AddTo_1 [x0, x1] (p_impl_AddTo_1 x0 x1) := cc Try.func132 [] (fun _ => []) (by kernel_rfl)
/- impl.AddTo -/
def p_impl_AddTo (x0 x1 x2 x3 : AV) : Prog := .op (.box x1) fun v1 => .op (.call n_impl_copyTrails [x0]) fun v2 => .op (.fad 0 v1) fun v3 => .op (.ld1 v3) fun v4 => .op (.call n_impl_TrailAt [x0, v4]) fun v5 => .op (.bin 0 .geq v5 (AV.int .i64 0)) fun v6 => .ite v6 (.op (.idx 4 v2 v5) fun v7 => .op (.fad 3 v7) fun v8 => .op (.ld1 v8) fun v9 => .op (.ldn 6 v1) fun v10 => .op (.call n_impl_copySpan [v10]) fun v11 => .chk (.ld1 v8) v9 (.op (.bslice 6 1 z6_822 [(0, 6, v11)]) fun v12 => .op (.app 6 64 v9 v12) fun v13 => .op (.idx 4 v2 v5) fun v14 => .op (.fad 3 v14) fun v15 => .op (.st 1 v15 v13) fun v16 => .fin [.val v2])) (.op (.mkfn n_impl_AddTo_1 [v1]) fun v17 => .op (.call n_slices_IndexFunc_Trail [x0, v17]) fun v18 => .op (.bin 0 .lss v18 (AV.int .i64 0)) fun v19 => .scope (.ite v19 (.op (.len 0 x0) fun v20 => .leaf 0 [v20]) (.leaf 0 [v18])) (fun vs21 => .op (.fad 0 v1) fun v23 => .op (.ld1 v23) fun v24 => .op (.ldn 6 v1) fun v25 => .op (.call n_impl_copySpan [v25]) fun v26 => .chk (.ld1 v23) v24 (.op (.bslice 6 1 z6_822 [(0, 6, v26)]) fun v27 => .op (.build [AV.int .i64 0, AV.int .i64 0, AV.int .i64 0, AV.nils] [(0, 1, v24), (1, 1, x2), (2, 1, x3), (3, 1, v27)]) fun v28 => .op (.bslice 4 1 [AV.int .i64 0, AV.int .i64 0, AV.int .i64 0, AV.nils] [(0, 4, v28)]) fun v29 => .op (.call n_slices_Insert_Trail [v2, g vs21 0, v29]) fun v30 => .fin [.val v30])) fun t22 vs21 => tsel t22 1 (.leaf 1 vs21) .bad)
theorem c_impl_AddTo (x0 x1 x2 x3 : AV) : CC Try.prog n_impl_AddTo [x0, x1, x2, x3] (p_impl_AddTo x0 x1 x2 x3) := cc Try.func25 [2, 3, 5, 9, 11] (fun r => if r = 4 then [(0, []), (1, []), (2, []), (3, []), (4, []), (5, []), (6, []), (7, []), (8, [6]), (9, []), (10, []), (11, []), (12, []), (13, [])] else if r = 9 then [(0, []), (1, []), (2, []), (3, []), (4, []), (5, []), (6, []), (7, [3]), (8, []), (9, []), (10, []), (11, []), (12, [])] else []) (by kernel_rfl)
/- spec.AddTo -/
def p_spec_AddTo (x0 x1 x2 x3 : AV) : Prog := .op (.box x1) fun v1 => .op (.call n_spec_l10All [x0]) fun v2 => .op (.fad 0 v1) fun v3 => .op (.ld1 v3) fun v4 => .op (.call n_spec_TrailAt [x0, v4]) fun v5 => .op (.bin 0 .geq v5 (AV.int .i64 0)) fun v6 => .ite v6 (.op (.idx 4 v2 v5) fun v7 => .op (.fad 3 v7) fun v8 => .op (.ld1 v8) fun v9 => .op (.ldn 6 v1) fun v10 => .op (.call n_spec_l3Copy [v10]) fun v11 => .chk (.ld1 v8) v9 (.op (.bslice 6 1 z6_822 [(0, 6, v11)]) fun v12 => .op (.app 6 64 v9 v12) fun v13 => .op (.idx 4 v2 v5) fun v14 => .op (.fad 3 v14) fun v15 => .op (.st 1 v15 v13) fun v16 => .fin [.val v2])) (.loop [AV.int .i64 0] (fun vs17 => .op (.len 0 x0) fun v19 => .op (.bin 0 .lss (g vs17 0) v19) fun v20 => .gop v20 true (.mv x0) fun v21 => .gop v20 true (.mv (g vs17 0)) fun v22 => .gop v20 true (.idx 4 v21 v22) fun v23 => .gop v20 true (.fad 0 v23) fun v24 => .gop v20 true (.ld1 v24) fun v25 => .gop v20 true (.fad 0 v1) fun v26 => .gop v20 true (.ld1 v26) fun v27 => .gop v20 true (.bin 0 .leq v25 v27) fun v28 => .op (.pick v20 v28 (AV.bool false)) fun v29 => .ite v29 (.op (.bin 0 .add (g vs17 0) (AV.int .i64 1)) fun v30 => .leaf 0 [v30]) (.leaf 2 [g vs17 0])) fun t18 vs17 => tsel t18 1 (.leaf 1 vs17) (tsel t18 2 (.op (.fad 0 v1) fun v31 => .op (.ld1 v31) fun v32 => .op (.ldn 6 v1) fun v33 => .op (.alloc [AV.int .i64 0, AV.int .i64 0, AV.int .i64 0, AV.nils]) fun v34 => .op (.call n_spec_l3Copy [v33]) fun v35 => .chk (.ld1 v31) v32 (.chk (.alloc [AV.int .i64 0, AV.int .i64 0, AV.int .i64 0, AV.nils]) v34 (.op (.bslice 6 1 z6_822 [(0, 6, v35)]) fun v36 => .op (.build [AV.int .i64 0, AV.int .i64 0, AV.int .i64 0, AV.nils] [(0, 1, v32), (1, 1, x2), (2, 1, x3), (3, 1, v36)]) fun v37 => .op (.st 4 v34 v37) fun v38 => .op (.slc 4 x0 none (some (g vs17 0)) none) fun v39 => .op (.ldn 4 v34) fun v40 => .op (.bslice 4 1 [AV.int .i64 0, AV.int .i64 0, AV.int .i64 0, AV.nils] [(0, 4, v40)]) fun v41 => .op (.slc 4 x0 (some (g vs17 0)) none none) fun v42 => .op (.call n_spec_l10All [v39]) fun v43 => .chk (.ldn 4 v34) v40 (.chk (.bslice 4 1 [AV.int .i64 0, AV.int .i64 0, AV.int .i64 0, AV.nils] [(0, 4, v40)]) v41 (.chk (.slc 4 x0 (some (g vs17 0)) none none) v42 (.op (.app 4 48 v43 v41) fun v44 => .chk (.slc 4 x0 (some (g vs17 0)) none none) v42 (.op (.call n_spec_l10All [v42]) fun v45 => .op (.app 4 48 v44 v45) fun v46 => .fin [.val v46]))))))) .bad))
theorem c_spec_AddTo (x0 x1 x2 x3 : AV) : CC Try.prog n_spec_AddTo [x0, x1, x2, x3] (p_spec_AddTo x0 x1 x2 x3) := cc Try.func22 [0, 2, 3, 5, 10] (fun r => if r = 4 then [(0, []), (1, []), (2, []), (3, []), (4, []), (5, []), (6, []), (7, []), (8, [6]), (9, []), (10, []), (11, []), (12, []), (13, [])] else if r = 7 then [(0, []), (1, []), (2, []), (3, []), (4, []), (5, []), (6, []), (7, []), (8, []), (9, []), (10, []), (11, []), (12, []), (13, [])] else if r = 9 then [(0, []), (1, []), (2, []), (3, []), (4, []), (8, []), (5, [1, 8]), (6, []), (7, []), (9, [])] else if r = 10 then [(0, []), (1, []), (2, []), (4, []), (5, []), (7, []), (8, []), (9, []), (3, [4, 5, 9]), (6, [9]), (10, []), (11, []), (12, [])] else []) (by kernel_rfl)
end
def gtT (id : Int) (t : Trail) : Bool := decide (id < t.id)
def addTo (l : List Trail) (s : Span) (stamp now : Int) : List Trail :=
  if idx (isId s.trace) l < 0 then l.take (l.findIdx (gtT s.trace)) ++ ⟨s.trace, stamp, now, [s]⟩ :: l.drop (l.findIdx (gtT s.trace))
  else match l[(idx (isId s.trace) l).toNat]? with
    | some t => l.set (idx (isId s.trace) l).toNat { t with spans := t.spans ++ [s] }
    | none => l
theorem addTo_no {l : List Trail} {s : Span} {st nw : Int} (h : idx (isId s.trace) l < 0) : addTo l s st nw = l.take (l.findIdx (gtT s.trace)) ++ ⟨s.trace, st, nw, [s]⟩ :: l.drop (l.findIdx (gtT s.trace)) := if_pos h
theorem addTo_yes {l : List Trail} {s : Span} {st nw : Int} {i : Nat} {t : Trail} (h : idx (isId s.trace) l = i) (ht : l[i]? = some t) : addTo l s st nw = l.set i { t with spans := t.spans ++ [s] } := by
  unfold addTo
  rw [if_neg (by omega), h]
  simp only [Int.toNat_natCast, ht]
theorem s_impl_AddTo_1 {h : AH} {b : Nat} {s : Span} {v : AV} (a : At h b 0 (s.cs v)) : Looks Trail Try.prog h n_impl_AddTo_1 [.ptr b 0] (gtT s.trace) := by
  rintro x cs F ⟨w, rfl, r⟩
  refine reader (c_impl_AddTo_1 _ _) (by simp only [old]) ?_
  unfold p_impl_AddTo_1
  have a' : At h b 0 [.int .i64 s.trace, .int .i64 s.id, .int .i64 s.start, .int .i64 s.fin, .bool s.err, v] := a
  (repeat' first|refine vs ?_|(refine br ?_ ?_<;>intro _<;>try(exfalso;first|omega|contradiction))|((with_reducible refine g_idx ?_);((first|refine ix ?_|refine ixi ?_|(refine ixg ?_;intro _ _)|(refine ixgi ?_;intro _ _));first|rintro _ _ _ _ _ ⟨rfl,rfl⟩ _|rintro _ _ _ _ _ ⟨_,rfl,_⟩ _|rintro _ _ _ _ _ ⟨_,_,_,_,rfl,rfl,_,_⟩ _|intro _ _ _ _ _ _ _))|(refine sx ?_;intro _ _)|((with_reducible refine g_awp ?_);simp only [g0,g1,g2]))
  all_goals (refine pb ?_; simp [gtT, *])
theorem gt_b (id : Int) (l : List Trail) : l.findIdx (gtT id) ≤ l.length := List.findIdx_le_length
theorem idx_gt {id : Int} {l : List Trail} : (idx (gtT id) l < 0 → l.findIdx (gtT id) = l.length) ∧ (¬ idx (gtT id) l < 0 → idx (gtT id) l = (l.findIdx (gtT id) : Int)) := by
  have := gt_b id l
  unfold idx
  split
  · exact ⟨fun q => by omega, fun _ => rfl⟩
  · exact ⟨fun _ => by omega, fun q => by omega⟩
theorem s_impl_AddTo {h : AH} {l : List Trail} {v : AV} {F : List Nat} {s : Span} {vS : AV} {Fs : List Nat} {st nw : Int} (hs : l.length + szs l ≤ 67108864) (hss : Sz.sz s ≤ 67108864) (r : SlRep h v l F) (rs : SlRep h vS s.attrs Fs) :
    ACalls Try.prog n_impl_AddTo [v, .agg (s.cs vS), .int .i64 st, .int .i64 nw] h (NewS Trail h (addTo l s st nw)) := by
  refine c_impl_AddTo _ _ _ _ ?_
  unfold p_impl_AddTo
  refine vs0 ?_
  obtain ⟨H, hH⟩ : ∃ H, H = h.push ⟨s.cs vS, 0, 0⟩ := ⟨_, rfl⟩
  have nH : H.n = h.n + 1 := by rw [hH]; rfl
  have eH : Ext h H := by rw [hH]; exact (Ext.refl h).push _
  have bH : Bk H h.n [.int .i64 s.trace, .int .i64 s.id, .int .i64 s.start, .int .i64 s.fin, .bool s.err, vS] 0 := by rw [hH]; exact bk_push
  rw [← hH]
  clear hH
  have r' := r.ext eH
  have rs' := rs.ext eH
  refine aw_call (s_impl_copyTrails l hs _ _ _ r') ?_
  rintro w1 h1 ⟨e1, G1, q1, o1⟩
  have n1 := e1.1
  have b1 := bk_ext1 e1 bH
  have r1 := r'.ext e1
  have rs1 := rs'.ext e1
  have E1 : Ext h h1 := eH.trans e1
  refine vs ?_
  refine aw_rcall (s_impl_TrailAt r1) ?_
  refine br (fun hge => ?_) (fun hlt => ?_)
  · have hib := idx_b (isId s.trace) l
    obtain ⟨i, hi⟩ : ∃ i : Nat, idx (isId s.trace) l = i := ⟨(idx (isId s.trace) l).toNat, by omega⟩
    obtain ⟨t, ht, -, -⟩ := drop_step (show i < l.length by omega)
    have hil : i < l.length := (List.getElem?_eq_some_iff.1 ht).1
    have hm := szs_mem (List.mem_of_getElem? ht)
    have hx2 : Sz.sz t = t.spans.length + szs t.spans := rfl
    rw [addTo_yes hi ht]
    rw [hi]
    obtain ⟨b, off, E, Fi, R, rfl, ⟨vL, rfl, rL⟩, oL, el, dF, mR, mF⟩ := q1.elt o1 ht
    refine vs ?_
    refine aw_idx_raw (by omega) ?_
    have a1 : At h1 b (off + i * 4) [.int .i64 t.id, .int .i64 t.stamp, .int .i64 t.first, vL] := el.at_
    refine vs ?_
    refine aw_call (s_impl_copySpan s hss _ _ _ ⟨_, rfl, rs1⟩) ?_
    rintro _ h2 ⟨e2, _, G2, rfl, ⟨w2, rfl, q2⟩, o2⟩
    have n2 := e2.1
    have el2 := el.ext e2
    have a2 : At h2 b (off + i * 4) [.int .i64 t.id, .int .i64 t.stamp, .int .i64 t.first, vL] := el2.at_
    have rL2 := rL.ext e2
    have oL2 : Own h.n h2 Fi := ((ol_ext1 e2 oL).1).mono (by omega) fun _ _ => rfl
    have dG : ∀ c ∈ Fi, c ∉ G2 := fun c hc hg => by have := oL.2 c hc; have := (o2.2 c hg).1; omega
    have dRG : ∀ c ∈ R, c ∉ G2 := fun c hc hg => by have := el.own.2 c hc; have := (o2.2 c hg).1; omega
    have ltG2 := q2.lt
    refine vs ?_
    refine app1F (n := h.n) (xs := t.spans) (a := s) (G := G2) rL2 ⟨_, rfl, q2⟩ (own_app oL2 (o2.mono (by omega) fun _ _ => rfl) (Nat.le_refl _) dG) (by omega) rfl (by omega) (by omega) ?_
    intro v' h3 F3 ek k3 q3 o3 m3
    have n3 := k3.1
    have el3 := el2.kp (k3) fun c hc hf => dF c hf hc
    refine aw_idx_raw (by omega) ?_
    refine vs ?_
    refine el3.st_ (j := 3) q3.cell rfl sp_auto ?_
    intro h4 el4 k4 n4
    have ltR : ∀ c ∈ R, c < h1.n := el.own.2
    have dR3 : ∀ c ∈ F3, c ∉ R := fun c hc hR => by
      rcases m3 c hc with q | q | q
      · exact dF c q hR
      · exact dRG c hR q
      · have := ltR c hR; omega
    have mb : b ∈ R := el.mem
    have q4 : SlRep h4 v' (t.spans ++ [s]) F3 := slr_kp1 k4 q3 fun c hc hb => dR3 c hc (List.mem_singleton.1 hb ▸ mb)
    have o4 : Own h.n h4 F3 := (ol_kp1 k4 ⟨o3, q3.lt⟩ fun c hc hb => dR3 c hc (List.mem_singleton.1 hb ▸ mb)).1
    have el4 : Elt Trail H.n h4 b (off + i * 4) (Trail.cs { t with spans := t.spans ++ [s] } v') (.sl b off l.length) l i R := el4
    have o4' : Own H.n h4 F3 := ⟨o4.1, fun c hc => ⟨by
      rcases m3 c hc with q | q | q
      · exact (oL.1.2 c q).1
      · have := (o2.2 c q).1; omega
      · omega, (o4.2 c hc).2⟩⟩
    obtain ⟨F5, q5, o5, -⟩ := el4.done (x' := { t with spans := t.spans ++ [s] }) ⟨v', rfl, q4⟩ o4' dR3
    refine vs ?_
    have oX : ∀ c ∈ Fi, h.n ≤ c := fun c hc => by have := (oL.1.2 c hc).1; omega
    have hb1 : h.n ≤ b := by have := (el.own.1.2 b mb).1; omega
    exact ⟨rfl, _, rfl, Kp.ext (ek h (E1.trans e2) (Nat.le_refl _)) k4 fun c hc => by rw [List.mem_singleton.1 hc]; exact hb1, F5, q5, o5.mono (by omega) fun _ _ => rfl⟩
  · rw [addTo_no (by omega)]
    refine vs ?_
    refine aw_rcall (s_slices_IndexFunc_Trail r1 (s_impl_AddTo_1 (at_bk b1))) ?_
    obtain ⟨i1, i2⟩ := idx_gt (id := s.trace) (l := l)
    have hgb := gt_b s.trace l
    obtain ⟨k, hk⟩ : ∃ k, k = l.findIdx (gtT s.trace) := ⟨_, rfl⟩
    rw [← hk] at i1 i2 hgb ⊢
    have body : ∀ z : Int, z = (k : Int) → (Prog.op (.fad 0 (.ptr h.n 0)) fun v23 => .op (.ld1 v23) fun v24 => .op (.ldn 6 (.ptr h.n 0)) fun v25 => .op (.call n_impl_copySpan [v25]) fun v26 => .chk (.ld1 v23) v24 (.op (.bslice 6 1 [AV.int .i64 0, AV.int .i64 0, AV.int .i64 0, AV.int .i64 0, AV.bool false, AV.nils] [(0, 6, v26)]) fun v27 => .op (.build [AV.int .i64 0, AV.int .i64 0, AV.int .i64 0, AV.nils] [(0, 1, v24), (1, 1, .int .i64 st), (2, 1, .int .i64 nw), (3, 1, v27)]) fun v28 => .op (.bslice 4 1 [AV.int .i64 0, AV.int .i64 0, AV.int .i64 0, AV.nils] [(0, 4, v28)]) fun v29 => .op (.call n_slices_Insert_Trail [w1, .int .i64 z, v29]) fun v30 => .fin [.val v30])).awp Try.prog h1 fun t vs h' => t = 1 ∧ ∃ u, vs = [u] ∧ NewS Trail h (l.take k ++ ⟨s.trace, st, nw, [s]⟩ :: l.drop k) u h' := by
      rintro z rfl
      refine vs ?_
      refine aw_call (s_impl_copySpan s hss _ _ _ ⟨_, rfl, rs1⟩) ?_
      rintro _ h2 ⟨e2, _, G2, rfl, ⟨w2, rfl, q2⟩, o2⟩
      have n2 := e2.1
      refine vs ?_
      obtain ⟨K, hK⟩ : ∃ K, K = (h2.push ⟨s.cs w2, 6, 0⟩) := ⟨_, rfl⟩
      have nK : K.n = h2.n + 1 := by rw [hK]; rfl
      have rS : SlRep K (.sl h2.n 0 1) [s] (h2.n :: G2) := by rw [hK]; exact slrep_push (n := 1) rfl (by decide) (reps_one ⟨w2, rfl, q2⟩)
      have oS : Own H.n K (h2.n :: G2) := by rw [hK]; exact own_push (by omega) rfl q2.lt (o2.mono (by omega) fun _ _ => rfl)
      have eK : Ext h2 K := by rw [hK]; exact (Ext.refl _).push _
      have hK' : (h2.push ⟨[.int .i64 s.trace, .int .i64 s.id, .int .i64 s.start, .int .i64 s.fin, .bool s.err, w2], 6, 0⟩) = K := hK.symm
      rw [hK']
      clear hK hK'
      have q1K : SlRep K w1 l G1 := (q1.ext e2).ext eK
      have o1K : Own H.n K G1 := (ol_ext1 eK (ol_ext1 e2 ⟨o1, q1.lt⟩)).1
      have ltG := q1.lt
      have ltS := rS.lt
      have dS : ∀ c ∈ G1, c ∉ h2.n :: G2 := fun c hc hm => by
        have := ltG c hc
        rcases List.mem_cons.1 hm with e | e
        · omega
        · have := (o2.2 c e).1; omega
      refine aw_call (s_slices_Insert_Trail (n := H.n) (k := k) (t := ⟨s.trace, st, nw, [s]⟩) (G := h2.n :: G2) (cs := [.int .i64 s.trace, .int .i64 st, .int .i64 nw, .sl h2.n 0 1]) (slr_push1 q1K) ?_ bk_push ⟨_, rfl, slr_push1 rS⟩ ?_ ?_ (by simp only [push_n]; omega) hgb (by omega)) ?_
      · exact (ol_push1 ⟨o1K, q1K.lt⟩).1
      · exact own_push (by omega) rfl rS.lt oS
      · intro c hc hm
        rcases List.mem_cons.1 hm with e | e
        · have := ltG c hc; omega
        · exact dS c hc e
      rintro u h5 ⟨k5, F5, q5, o5, -⟩
      refine vs ?_
      refine ⟨rfl, _, rfl, ?_, F5, q5, o5.mono (by omega) fun _ _ => rfl⟩
      refine Kp.ext ((E1.trans e2).trans (eK.push _)) k5 fun c hc => ?_
      have := (o1.2 c hc).1; omega
    refine br (fun hl2 => ?_) (fun hl2 => ?_)
    · refine aw_scope ?_
      refine aw_ite_t ?_
      refine aw_len r1 ?_
      refine aw_leaf ?_
      refine aw_nexts ?_
      simp only [g0]
      exact body _ (by have := i1 hl2; omega)
    · refine aw_scope ?_
      refine aw_ite_f ?_
      refine aw_leaf ?_
      refine aw_nexts ?_
      simp only [g0]
      exact body _ (by have := i2 hl2; omega)
theorem findIdx_is {α : Type} {p : α → Bool} {l : List α} {k : Nat} (hk : k ≤ l.length) (hlo : ∀ j y, j < k → l[j]? = some y → p y = false) (hhi : ∀ y, l[k]? = some y → p y = true) : l.findIdx p = k := by
  by_cases e : k < l.length
  · rw [List.findIdx_eq e]
    exact ⟨hhi _ (List.getElem?_eq_getElem e), fun j hj => hlo j _ hj (List.getElem?_eq_getElem (by omega))⟩
  · have : k = l.length := by omega
    subst this
    rw [List.findIdx_eq_length]
    intro x hx
    obtain ⟨j, hj⟩ := List.mem_iff_getElem?.1 hx
    exact hlo j x (List.getElem?_eq_some_iff.1 hj).1 hj
theorem s_spec_AddTo {h : AH} {l : List Trail} {v : AV} {F : List Nat} {s : Span} {vS : AV} {Fs : List Nat} {st nw : Int} {n : Nat} (hs : l.length + szs l ≤ 67108864) (hss : Sz.sz s ≤ 67108864) (r : SlRep h v l F) (o : Own n h F) (rs : SlRep h vS s.attrs Fs) :
    ACalls Try.prog n_spec_AddTo [v, .agg (s.cs vS), .int .i64 st, .int .i64 nw] h (NewS Trail h (addTo l s st nw)) := by
  refine c_spec_AddTo _ _ _ _ ?_
  unfold p_spec_AddTo
  refine vs0 ?_
  obtain ⟨H, hH⟩ : ∃ H, H = h.push ⟨s.cs vS, 0, 0⟩ := ⟨_, rfl⟩
  have nH : H.n = h.n + 1 := by rw [hH]; rfl
  have eH : Ext h H := by rw [hH]; exact (Ext.refl h).push _
  have bH : Bk H h.n [.int .i64 s.trace, .int .i64 s.id, .int .i64 s.start, .int .i64 s.fin, .bool s.err, vS] 0 := by rw [hH]; exact bk_push
  rw [← hH]
  clear hH
  have r' := r.ext eH
  have rs' := rs.ext eH
  refine aw_call (s_spec_l10All l hs _ _ _ r') ?_
  rintro w1 h1 ⟨e1, G1, q1, o1⟩
  have n1 := e1.1
  have b1 := bk_ext1 e1 bH
  have r1 := r'.ext e1
  have rs1 := rs'.ext e1
  have E1 : Ext h h1 := eH.trans e1
  have o1F : Own n h1 F := (ol_ext1 E1 ⟨o, r.lt⟩).1
  refine vs ?_
  refine aw_rcall (s_spec_TrailAt r1) ?_
  refine br (fun hge => ?_) (fun hlt => ?_)
  · have hib := idx_b (isId s.trace) l
    obtain ⟨i, hi⟩ : ∃ i : Nat, idx (isId s.trace) l = i := ⟨(idx (isId s.trace) l).toNat, by omega⟩
    obtain ⟨t, ht, -, -⟩ := drop_step (show i < l.length by omega)
    have hil : i < l.length := (List.getElem?_eq_some_iff.1 ht).1
    have hm := szs_mem (List.mem_of_getElem? ht)
    have hx2 : Sz.sz t = t.spans.length + szs t.spans := rfl
    rw [addTo_yes hi ht]
    rw [hi]
    obtain ⟨b, off, E, Fi, R, rfl, ⟨vL, rfl, rL⟩, oL, el, dF, mR, mF⟩ := q1.elt o1 ht
    refine vs ?_
    refine aw_idx_raw (by omega) ?_
    have a1 : At h1 b (off + i * 4) [.int .i64 t.id, .int .i64 t.stamp, .int .i64 t.first, vL] := el.at_
    refine vs ?_
    refine aw_call (s_spec_l3Copy s hss _ _ _ ⟨_, rfl, rs1⟩) ?_
    rintro _ h2 ⟨e2, _, G2, rfl, ⟨w2, rfl, q2⟩, o2⟩
    have n2 := e2.1
    have el2 := el.ext e2
    have a2 : At h2 b (off + i * 4) [.int .i64 t.id, .int .i64 t.stamp, .int .i64 t.first, vL] := el2.at_
    have rL2 := rL.ext e2
    have oL2 : Own h.n h2 Fi := ((ol_ext1 e2 oL).1).mono (by omega) fun _ _ => rfl
    have dG : ∀ c ∈ Fi, c ∉ G2 := fun c hc hg => by have := oL.2 c hc; have := (o2.2 c hg).1; omega
    have dRG : ∀ c ∈ R, c ∉ G2 := fun c hc hg => by have := el.own.2 c hc; have := (o2.2 c hg).1; omega
    have ltG2 := q2.lt
    refine vs ?_
    refine app1F (n := h.n) (xs := t.spans) (a := s) (G := G2) rL2 ⟨_, rfl, q2⟩ (own_app oL2 (o2.mono (by omega) fun _ _ => rfl) (Nat.le_refl _) dG) (by omega) rfl (by omega) (by omega) ?_
    intro v' h3 F3 ek k3 q3 o3 m3
    have n3 := k3.1
    have el3 := el2.kp (k3) fun c hc hf => dF c hf hc
    refine aw_idx_raw (by omega) ?_
    refine vs ?_
    refine el3.st_ (j := 3) q3.cell rfl sp_auto ?_
    intro h4 el4 k4 n4
    have ltR : ∀ c ∈ R, c < h1.n := el.own.2
    have dR3 : ∀ c ∈ F3, c ∉ R := fun c hc hR => by
      rcases m3 c hc with q | q | q
      · exact dF c q hR
      · exact dRG c hR q
      · have := ltR c hR; omega
    have mb : b ∈ R := el.mem
    have q4 : SlRep h4 v' (t.spans ++ [s]) F3 := slr_kp1 k4 q3 fun c hc hb => dR3 c hc (List.mem_singleton.1 hb ▸ mb)
    have o4 : Own h.n h4 F3 := (ol_kp1 k4 ⟨o3, q3.lt⟩ fun c hc hb => dR3 c hc (List.mem_singleton.1 hb ▸ mb)).1
    have el4 : Elt Trail H.n h4 b (off + i * 4) (Trail.cs { t with spans := t.spans ++ [s] } v') (.sl b off l.length) l i R := el4
    have o4' : Own H.n h4 F3 := ⟨o4.1, fun c hc => ⟨by
      rcases m3 c hc with q | q | q
      · exact (oL.1.2 c q).1
      · have := (o2.2 c q).1; omega
      · omega, (o4.2 c hc).2⟩⟩
    obtain ⟨F5, q5, o5, -⟩ := el4.done (x' := { t with spans := t.spans ++ [s] }) ⟨v', rfl, q4⟩ o4' dR3
    refine vs ?_
    have hb1 : h.n ≤ b := by have := (el.own.1.2 b mb).1; omega
    exact ⟨rfl, _, rfl, Kp.ext (ek h (E1.trans e2) (Nat.le_refl _)) k4 fun c hc => by rw [List.mem_singleton.1 hc]; exact hb1, F5, q5, o5.mono (by omega) fun _ _ => rfl⟩
  · rw [addTo_no (by omega)]
    have hgb := gt_b s.trace l
    obtain ⟨k, hk⟩ : ∃ k, k = l.findIdx (gtT s.trace) := ⟨_, rfl⟩
    rw [← hk] at hgb ⊢
    have hsm := r1.small
    refine aw_upto l.length (fun i vs h2 => vs = [.int .i64 (i : Int)] ∧ i ≤ l.length ∧ h2 = h1 ∧ Upto l (fun _ t => gtT s.trace t = false) i) ⟨rfl, Nat.zero_le _, rfl, up0⟩ ?_
    rintro i vL h2 _ ⟨rfl, hi, rfl, hu⟩
    simp only [g0]
    refine Prog.awp_mono (Q := fun tag vs' h' => (tag = 0 ∧ i < l.length ∧ vs' = [.int .i64 ((i + 1 : Nat) : Int)] ∧ h' = h2 ∧ Upto l (fun _ t => gtT s.trace t = false) (i + 1)) ∨ (tag = 2 ∧ vs' = [.int .i64 (k : Int)] ∧ h' = h2)) _ ?_ ?_
    · refine aw_len r1 ?_
      refine br (fun hl => ?_) (fun hg => ?_)
      · obtain ⟨t, ht, -, -⟩ := drop_step (show i < l.length by omega)
        (repeat' first|refine vs ?_|(refine br ?_ ?_<;>intro _<;>try(exfalso;first|omega|contradiction))|((with_reducible refine g_idx ?_);((first|refine ix ?_|refine ixi ?_|(refine ixg ?_;intro _ _)|(refine ixgi ?_;intro _ _));first|rintro _ _ _ _ _ ⟨rfl,rfl⟩ _|rintro _ _ _ _ _ ⟨_,rfl,_⟩ _|rintro _ _ _ _ _ ⟨_,_,_,_,rfl,rfl,_,_⟩ _|intro _ _ _ _ _ _ _))|(refine sx ?_;intro _ _)|((with_reducible refine g_awp ?_);simp only [g0,g1,g2]))
        · rename_i hle
          exact .inl ⟨rfl, by omega, rfl, rfl, upS hu ht (by simp [gtT]; omega)⟩
        · rename_i hle
          have : k = i := by rw [hk]; exact findIdx_is (by omega) (fun j y hj hy => hu j y hj hy) fun y hy => by rw [ht] at hy; cases hy; simp [gtT]; omega
          subst this
          exact .inr ⟨rfl, rfl, rfl⟩
      · (repeat' first|refine vs ?_|(refine br ?_ ?_<;>intro _<;>try(exfalso;first|omega|contradiction))|((with_reducible refine g_idx ?_);((first|refine ix ?_|refine ixi ?_|(refine ixg ?_;intro _ _)|(refine ixgi ?_;intro _ _));first|rintro _ _ _ _ _ ⟨rfl,rfl⟩ _|rintro _ _ _ _ _ ⟨_,rfl,_⟩ _|rintro _ _ _ _ _ ⟨_,_,_,_,rfl,rfl,_,_⟩ _|intro _ _ _ _ _ _ _))|(refine sx ?_;intro _ _)|((with_reducible refine g_awp ?_);simp only [g0,g1,g2]))
        have : k = i := by rw [hk]; exact findIdx_is (by omega) (fun j y hj hy => hu j y hj hy) fun y hy => by have := (List.getElem?_eq_some_iff.1 hy).1; omega
        subst this
        exact .inr ⟨rfl, rfl, rfl⟩
    rintro tg vs' h' (⟨rfl, hl, rfl, rfl, hu'⟩ | ⟨rfl, rfl, rfl⟩)
    · exact aw_nexts ⟨hl, rfl, by omega, rfl, hu'⟩
    refine aw_ends (by decide) (aw_tsel_ne (by decide) (aw_tsel_eq ?_))
    obtain ⟨u1, u2, B, X1, X2, eF, p1, t1, p2, t2, s1, s2⟩ := r1.cut (P := Try.prog) o1F hgb
    have ltF := r1.lt
    refine vs ?_
    refine aw_call (s_spec_l3Copy s hss _ _ _ ⟨_, rfl, slr_push1 rs1⟩) ?_
    rintro _ h3 ⟨e3, _, G3, rfl, ⟨w3, rfl, q3⟩, o3⟩
    have n3 := e3.1
    simp only [push_n] at n3
    have B3 : Bk h3 h'.n [.int .i64 0, .int .i64 0, .int .i64 0, .nils] 0 := bk_ext1 e3 bk_push
    have e3' : Ext h' h3 := ((Ext.refl h').push _).trans e3
    refine vs ?_
    refine aw_chk ⟨by rw [B3.2], by rw [B3.2], by rw [B3.2]⟩ ?_
    refine vs ?_
    obtain ⟨L, hL⟩ : ∃ L, L = h3.upd h'.n ⟨[.int .i64 s.trace, .int .i64 st, .int .i64 nw, .sl h3.n 0 1], 0, 0⟩ := ⟨_, rfl⟩
    have nL : L.n = h3.n := by rw [hL]; rfl
    have eL : Ext h' L := by rw [hL]; exact e3'.upd (Nat.le_refl _) _
    have bL : Bk L h'.n [.int .i64 s.trace, .int .i64 st, .int .i64 nw, .sl h3.n 0 1] 0 := by rw [hL]; exact bk_upd (by omega)
    have ng3 : h'.n ∉ G3 := fun hm => by have := (o3.2 _ hm).1; simp only [push_n] at this; omega
    have qL : SlRep L w3 s.attrs G3 := by rw [hL]; exact slr_upd1 q3 ng3
    have oL : Own (h'.n + 1) L G3 := by rw [hL]; exact (ol_upd1 ⟨o3, q3.lt⟩ ng3).1
    obtain ⟨K, hK⟩ : ∃ K, K = L.push ⟨[.int .i64 s.trace, .int .i64 s.id, .int .i64 s.start, .int .i64 s.fin, .bool s.err, w3], 6, 0⟩ := ⟨_, rfl⟩
    have nK : K.n = h3.n + 1 := by rw [hK, push_n, nL]
    have eK : Ext h' K := by rw [hK]; exact eL.push _
    have bK : Bk K h'.n [.int .i64 s.trace, .int .i64 st, .int .i64 nw, .sl h3.n 0 1] 0 := by rw [hK]; exact bk_push1 bL
    have rK : SlRep K (.sl h3.n 0 1) [s] (h3.n :: G3) := by
      rw [hK, ← nL]
      exact slrep_push (n := 1) rfl (by decide) (reps_one ⟨w3, rfl, qL⟩)
    have oK : Own h.n K (h3.n :: G3) := by
      rw [hK, ← nL]
      exact own_push (by omega) rfl qL.lt (oL.mono (by omega) fun _ _ => rfl)
    rw [← hL]
    rw [← hK]
    clear hK
    have gB : ∀ (X : AH), Ext h' X → ∀ c ∈ B, X.get c = h'.get c := fun X eX c hc => eX.2 c (ltF c (by rw [eF]; simp [hc]))
    refine aw_go (s1 K _ (gB K eK) ?_)
    refine vs ?_
    obtain ⟨M, hM⟩ : ∃ M, M = K.push ⟨[.int .i64 s.trace, .int .i64 st, .int .i64 nw, .sl h3.n 0 1], 4, 0⟩ := ⟨_, rfl⟩
    have nM : M.n = K.n + 1 := by rw [hM]; rfl
    have eKM : Ext K M := by rw [hM]; exact (Ext.refl K).push _
    have eM : Ext h' M := eK.trans eKM
    have bM : Bk M h'.n [.int .i64 s.trace, .int .i64 st, .int .i64 nw, .sl h3.n 0 1] 0 := bk_ext1 eKM bK
    have bM2 : Bk M K.n [.int .i64 s.trace, .int .i64 st, .int .i64 nw, .sl h3.n 0 1] 4 := by rw [hM]; exact bk_push
    have rM : SlRep M (.sl K.n 0 1) [(⟨s.trace, st, nw, [s]⟩ : Trail)] (K.n :: h3.n :: G3) := by rw [hM]; exact slrep_push (n := 1) rfl (by decide) (reps_one ⟨_, rfl, rK⟩)
    have oM : Own h.n M (K.n :: h3.n :: G3) := by rw [hM]; exact own_push (by omega) rfl rK.lt oK
    have hMe : K.push ⟨[.int .i64 s.trace, .int .i64 st, .int .i64 nw, .sl h3.n 0 1], 4, 0⟩ = M := hM.symm
    rw [hMe]
    clear hM hMe
    refine aw_go (s2 M _ (gB M eM) ?_)
    have ht1 : (l.take k).length + szs (l.take k) ≤ 67108864 := by
      have := szs_app (l.take k) (l.drop k); rw [List.take_append_drop] at this
      rw [List.length_take]; omega
    have ht2 : (l.drop k).length + szs (l.drop k) ≤ 67108864 := by
      have := szs_app (l.take k) (l.drop k); rw [List.take_append_drop] at this
      rw [List.length_drop]; omega
    refine aw_call (s_spec_l10All (l.take k) ht1 _ _ _ (p1.ext eM)) ?_
    rintro w5 h5 ⟨e5, G5, q5, o5⟩
    have n5 := e5.1
    have b5 := bk_ext1 e5 bM
    refine vs ?_
    refine w_chkb (bk_ext1 e5 bM2) (by rfl) (by decide) (by rfl) ?_
    refine aw_chk (s2 h5 (fun v' h2 => v' = u2 ∧ h2 = h5) (gB h5 (eM.trans e5)) ⟨rfl, rfl⟩) ?_
    have hl1 : ([(⟨s.trace, st, nw, [s]⟩ : Trail)]).length = 1 := rfl
    have ltM := rM.lt
    have lM : ∀ c ∈ h3.n :: G3, c < M.n := fun c hc => ltM c (List.mem_cons_of_mem _ hc)
    have o5' : Own h.n h5 (G5 ++ (h3.n :: G3)) := own_app (o5.mono (by omega) fun _ _ => rfl) (⟨(List.nodup_cons.1 oM.1).2, fun c hc => by
      have := oM.2 c (List.mem_cons_of_mem _ hc)
      rw [e5.2 c (lM c hc)]; exact this⟩) (Nat.le_refl _) fun c hc hm => by
        have := (o5.2 c hc).1; have := lM c hm; omega
    refine aw_appF (n := h.n) q5 (rM.ext e5) o5' (by omega) rfl (by rw [hl1, List.length_take]; omega) (by rw [hl1, List.length_take]; omega) ?_
    intro w6 h6 F6 k6 q6 o6 m6
    have n6 := k6.1
    have k6' : ∀ c, c < M.n → h6.get c = h5.get c := fun c hc => k6.2 c (by omega) fun hm => by have := (o5.2 c hm).1; omega
    have e6 : Ext h' h6 := ⟨by have := eM.1; omega, fun c hc => by
      have := eM.1
      rw [k6' c (by omega)]; exact (eM.trans e5).2 c hc⟩
    refine aw_chk (s2 h6 (fun v' h2 => v' = u2 ∧ h2 = h6) (gB h6 e6) ⟨rfl, rfl⟩) ?_
    refine aw_call (s_spec_l10All (l.drop k) ht2 _ _ _ (p2.ext e6)) ?_
    rintro w7 h7 ⟨e7, G7, q7, o7⟩
    have n7 := e7.1
    refine aw_appF (n := h.n) (q6.ext e7) q7 (own_tail (own_app (o6.ext e7 q6.lt) (o7.mono (by omega) fun _ _ => rfl) (Nat.le_refl _) fun c hc hm => by
      have := q6.lt c hc; have := (o7.2 c hm).1; omega)) (by omega) rfl (by simp only [List.length_append, List.length_take, List.length_drop, hl1]; omega) (by simp only [List.length_append, List.length_take, List.length_drop, hl1]; omega) ?_
    intro w8 h8 F8 k8 q8 o8 m8
    refine vs ?_
    refine ⟨rfl, _, rfl, ?_, F8, ?_, o8⟩
    · refine Kp.ext ((E1.trans e6).trans e7) k8 fun c hc => (o6.2 c hc).1
    · have : l.take k ++ [(⟨s.trace, st, nw, [s]⟩ : Trail)] ++ l.drop k = l.take k ++ ⟨s.trace, st, nw, [s]⟩ :: l.drop k := by simp
      rw [← this]; exact q8
theorem addTo_sz (l : List Trail) (s : Span) (st nw : Int) : (addTo l s st nw).length + szs (addTo l s st nw) ≤ l.length + szs l + (2 + Sz.sz s) := by
  have hsp : ∀ (k : Nat), szs (l.take k) + szs (l.drop k) = szs l := fun k => by
    have := szs_app (l.take k) (l.drop k); rw [List.take_append_drop] at this; omega
  have e1 : ∀ (sp : List Span), szs (sp ++ [s]) = szs sp + Sz.sz s := fun sp => by rw [szs_app]; simp [szs]
  by_cases h : idx (isId s.trace) l < 0
  · rw [addTo_no h]
    have hgb := gt_b s.trace l
    have hk := hsp (l.findIdx (gtT s.trace))
    have e2 : Sz.sz (⟨s.trace, st, nw, [s]⟩ : Trail) = 1 + (Sz.sz s + 0) := rfl
    rw [szs_app]
    simp only [List.length_append, List.length_cons, List.length_take, List.length_drop, szs, e2]
    omega
  · have hib := idx_b (isId s.trace) l
    obtain ⟨i, hi⟩ : ∃ i : Nat, idx (isId s.trace) l = i := ⟨(idx (isId s.trace) l).toNat, by omega⟩
    obtain ⟨t, ht, -, -⟩ := drop_step (show i < l.length by omega)
    rw [addTo_yes hi ht, set_split ht]
    have hx := congrArg szs (get_split ht)
    rw [szs_app] at hx ⊢
    have e2 : Sz.sz ({ t with spans := t.spans ++ [s] } : Trail) = (t.spans ++ [s]).length + szs (t.spans ++ [s]) := rfl
    have e3 : Sz.sz t = t.spans.length + szs t.spans := rfl
    rw [e1] at e2
    simp only [List.length_append, List.length_cons, List.length_take, List.length_drop, szs, e2, List.length_nil] at hx ⊢
    omega
end Go.Proofs.Ytpcgbddmdipfbaa
