import Derived.Test.YtekfdoknfcedpaaGreatCK5
/- A world under change: elements opened and closed, fields set. Written by mkws.py. -/
set_option linter.unusedSimpArgs false
set_option linter.unusedVariables false
namespace Go.Ab
open Go.RowKit

structure EK (α : Type) [Cel α] (n : Nat) (g h : AH) (b o : Nat) (E : List AV) (v : AV) (xs : List α) (i : Nat) (R : List Nat) : Prop where
  e : Elt α n h b o E v xs i R
  k : Kp g h [b]
section
variable {α : Type} [Cel α] {P : Program} {n b o i : Nat} {g h h' : AH} {E E' : List AV} {v : AV} {xs : List α} {R X F : List Nat} {Q : Nat → List AV → AH → Prop} {k : AV → Prog}
theorem EK.st_ {j m : Nat} {y : AV} {ys : List AV} (e : EK α n g h b o E v xs i R) (hx : y.cells? = some ys) (hn : ys.length = m) (s : SP E j ys E') (hk : ∀ h2, EK α n g h2 b o E' v xs i R → Kp h h2 [b] → h2.n = h.n → (k (.tup [])).awp P h2 Q) : (Prog.op (.st m (.ptr b (o + j)) y) k).awp P h Q := e.e.st_ hx hn s fun h2 e2 k2 n2 => hk h2 ⟨e2, e.k.trans k2⟩ k2 n2
theorem EK.st0 {m : Nat} {y : AV} {ys : List AV} (e : EK α n g h b o E v xs i R) (hx : y.cells? = some ys) (hn : ys.length = m) (s : SP E 0 ys E') (hk : ∀ h2, EK α n g h2 b o E' v xs i R → Kp h h2 [b] → h2.n = h.n → (k (.tup [])).awp P h2 Q) : (Prog.op (.st m (.ptr b o) y) k).awp P h Q := e.st_ (j := 0) hx hn s hk
theorem EK.ext (e : EK α n g h b o E v xs i R) (x : Ext h h') : EK α n g h' b o E v xs i R := ⟨e.e.ext x, e.k.trans_ext x⟩
theorem aw_lenS {b o m : Nat} (hk : (k (.int .i64 (m : Int))).awp P h Q) : (Prog.op (.len 0 (.sl b o m)) k).awp P h Q := by
  simp only [Prog.awp, AOp.go, lenOk, sllen]; exact hk
theorem sl_lt {m : Nat} (r : SlRep h (.sl b o m) xs F) : b < h.n := by
  rcases r with ⟨e, _, _⟩ | ⟨b', off, F', cs0, e, _, h1, _⟩
  · cases e
  · cases e; exact h1
theorem SlRep.sl (r : SlRep h v xs F) {x : α} (hx : xs[i]? = some x) : ∃ b o, v = .sl b o xs.length := by
  rcases r with ⟨rfl, h1, rfl⟩ | ⟨b, off, F', cs0, rfl, _⟩
  · have := (List.getElem?_eq_some_iff.1 hx).1; omega
  · exact ⟨b, off, rfl⟩
end
structure WS (n m : Nat) (h0 : AH) (b : Nat) (F0 : WF) (h : AH) (x : Wld) (V : WV) (F : WF) : Prop where
  w : PW n h b x V F
  mv : Mv m h0 b F0 h F
  hm : m ≤ h.n
section
variable {P : Program} {n m b i : Nat} {h0 h h' g : AH} {F0 F F' : WF} {x x' y : Wld} {V V' : WV} {Q : Nat → List AV → AH → Prop} {p : Prog}
theorem PW.ws (w : PW n h b x V F) : WS n h.n h b F h x V F := ⟨w, Mv.refl, Nat.le_refl _⟩
theorem WS.ext (s : WS n m h0 b F0 h x V F) (e : Ext h h') : WS n m h0 b F0 h' x V F := ⟨s.w.ext e, s.mv.ext s.hm e, Nat.le_trans s.hm e.1⟩
theorem WS.to (s : WS n m h0 b F0 h x V F) (w' : PW n h' b x' V' F') (k : Kp h h' (b :: F.a)) (fr : ∀ c ∈ F'.a, c ∈ F.a ∨ m ≤ c) : WS n m h0 b F0 h' x' V' F' := ⟨w', s.mv.trans (Mv.of k s.hm fr), Nat.le_trans s.hm k.1⟩
theorem WS.done (s : WS n m h0 b F0 h x V F) : Went n m h0 b F0 x h := ⟨V, F, s.w, s.mv⟩
theorem WS.put (s : WS n m h0 b F0 h x V F) (bk : Bk h' b (x'.cv V) 0) (k : Kp h h' [b]) (e0 : x'.c.rule.l = x.c.rule.l := by rfl) (e1 : x'.st = x.st := by rfl) (e2 : x'.cache = x.cache := by rfl) (e3 : x'.w.near = x.w.near := by rfl) (e4 : x'.w.far = x.w.far := by rfl) (e5 : x'.w.rest = x.w.rest := by rfl) (e6 : x'.due = x.due := by rfl) (e7 : x'.queue = x.queue := by rfl) (e8 : x'.out = x.out := by rfl) (e9 : x'.tasks = x.tasks := by rfl) (e10 : x'.deeds = x.deeds := by rfl) : WS n m h0 b F0 h' x' V F := s.to (s.w.put bk k e0 e1 e2 e3 e4 e5 e6 e7 e8 e9 e10) (k.mono fun c hc => by rw [List.mem_singleton.1 hc]; exact List.mem_cons_self) fun c hc => .inl hc
theorem WS.open9 (s : WS n m h0 b F0 h x V F) {y : Task} (hx : x.tasks[i]? = some y) {bb off len : Nat} (ev : V.v9 = .sl bb off len) : ∃ u0 u1 G0 G1 R, EK Task n h h bb (off + i * 12) (y.cs u0 u1) V.v9 x.tasks i R ∧ SlRep h u0 y.s.attrs G0 ∧ SlRep h u1 y.hand G1 ∧ OwnL n h (G0 ++ G1) ∧ (∀ c ∈ G0 ++ G1, c ≠ bb ∧ c ∈ F.f9) ∧ bb ≠ b ∧ n ≤ bb ∧ bb < h.n ∧ bb ∈ F.f9 ∧
    (∀ (h' : AH) (y' : Task) (v0 v1 : AV) (H0 H1 : List Nat), EK Task n h h' bb (off + i * 12) (y'.cs v0 v1) V.v9 x.tasks i R → SlRep h' v0 y'.s.attrs H0 → SlRep h' v1 y'.hand H1 → Own n h' (H0 ++ H1) → (∀ c ∈ H0 ++ H1, c ∈ G0 ++ G1 ∨ (c ≠ b ∧ c ∉ F.a ∧ m ≤ c)) → ∃ x1 F', x1 = { x with tasks := x.tasks.set i y' } ∧ WS n m h0 b F0 h' x1 V F' ∧ ∀ c ∈ F'.a, c ∈ F.a ∨ c ∈ H0 ++ H1) ∧
    (∀ (h' : AH) (y' : Task), y'.s.attrs = y.s.attrs → y'.hand = y.hand → EK Task n h h' bb (off + i * 12) (y'.cs u0 u1) V.v9 x.tasks i R → ∃ x1 F', x1 = { x with tasks := x.tasks.set i y' } ∧ WS n m h0 b F0 h' x1 V F' ∧ ∀ c ∈ F'.a, c ∈ F.a) := by
  obtain ⟨b1, o1, E, Fi, R, ev1, re, oF, el, hd, mR, mF⟩ := s.w.r9.elt s.w.o9 hx
  rw [ev] at ev1
  injection ev1 with e1 e2 e3
  subst e1 e2
  obtain ⟨u0, u1, G0, G1, rfl, rfl, q0, q1⟩ := re
  have mb := el.mem
  have hbF := mR bb mb
  have gen : ∀ (h' : AH) (y' : Task) (v0 v1 : AV) (H0 H1 : List Nat), EK Task n h h' bb (off + i * 12) (y'.cs v0 v1) V.v9 x.tasks i R → SlRep h' v0 y'.s.attrs H0 → SlRep h' v1 y'.hand H1 → Own n h' (H0 ++ H1) → (∀ c ∈ H0 ++ H1, c ∈ G0 ++ G1 ∨ (c ≠ b ∧ c ∉ F.a ∧ m ≤ c)) → ∃ x1 F', x1 = { x with tasks := x.tasks.set i y' } ∧ WS n m h0 b F0 h' x1 V F' ∧ ∀ c ∈ F'.a, c ∈ F.a ∨ c ∈ H0 ++ H1 := by
    intro h' y' v0 v1 H0 H1 ek p0 p1 ow fr
    obtain ⟨F', w', m', k'⟩ := s.w.fin9 ek.e (y' := y') (G := H0 ++ H1) ⟨_, _, _, _, rfl, rfl, p0, p1⟩ ow (fun c hc hR => by
      rcases fr c hc with q | q
      · exact hd c q hR
      · exact q.2.1 (F.in9 c (mR c hR))) mR (fun c hc => by
      rcases fr c hc with q | q
      · exact ⟨fun e => s.w.n9 (e ▸ mF c q), .inl (mF c q)⟩
      · exact ⟨q.1, .inr q.2.1⟩) (ek.k.mono fun c hc => by rw [List.mem_singleton.1 hc]; exact hbF)
    refine ⟨_, F', rfl, s.to w' k' fun c hc => ?_, m'⟩
    rcases m' c hc with q | q
    · exact .inl q
    · rcases fr c q with q | q
      · exact .inl (F.in9 c (mF c q))
      · exact .inr q.2.2
  refine ⟨u0, u1, G0, G1, R, ⟨el, Kp.refl _ _⟩, q0, q1, oF, fun c hc => ⟨fun e => hd c hc (e ▸ mb), mF c hc⟩, fun e => s.w.n9 (e ▸ hbF), (el.own.1.2 bb mb).1, el.lt, hbF, gen, fun h' y' e0 e1 ek => ?_⟩
  have dk : ∀ c ∈ G0 ++ G1, c ∉ [bb] := fun c hc hX => hd c hc (List.mem_singleton.1 hX ▸ mb)
  obtain ⟨x1, F', e', w', m'⟩ := gen h' y' u0 u1 G0 G1 ek (by rw [e0]; exact slr_kp1 ek.k q0 fun c hc => dk c (List.mem_append_left _ hc)) (by rw [e1]; exact slr_kp1 ek.k q1 fun c hc => dk c (List.mem_append_right _ hc)) (ol_kp1 ek.k oF dk).1 fun c hc => .inl hc
  exact ⟨x1, F', e', w', fun c hc => (m' c hc).elim id fun q => F.in9 c (mF c q)⟩
end
theorem bk_aw {h : AH} {b : Nat} {cs : List AV} {es : Nat} (a : Bk h b cs es := by ((repeat (first | assumption | with_reducible exact bk_push | ((with_reducible apply bk_pushE); (simp only [push_n, upd_n] <;> fail)) | with_reducible apply bk_push1 | ((with_reducible apply bk_upd); exact om_auto) | ((with_reducible apply bk_updE); (first | rfl | (simp only [push_n, upd_n] <;> fail)); exact om_auto) | with_reducible apply bk_upd1 | ((with_reducible apply bk_ext1); assumption) | ((with_reducible apply bk_kp1); assumption) | exact nin_auto | exact om_auto)) <;> fail)) : Bk h b cs es := a
theorem at_aw {h : AH} {b o : Nat} {cs : List AV} (a : At h b o cs := by ((repeat (first | assumption | exact at_bk (by assumption) | with_reducible exact at_push | ((with_reducible apply at_pushE); (simp only [push_n, upd_n] <;> fail)) | ((with_reducible apply at_updS); exact om_auto) | ((with_reducible apply at_updE); (first | rfl | (simp only [push_n, upd_n] <;> fail)); exact om_auto) | with_reducible apply At.push | with_reducible apply at_upd1 | ((with_reducible apply at_ext1); assumption) | ((with_reducible apply at_kp1); assumption) | exact At.toExt (by assumption) ext_auto | exact nin_auto | exact om_auto)) <;> fail)) : At h b o cs := a
theorem ld_aw {h : AH} {b o : Nat} {v : AV} (l : LD h b o v := by (first | ((with_reducible apply gl_c); exact ld_c at_aw (by rfl)) | ((with_reducible apply gl_b); exact ld_b at_aw (by rfl)) | exact ld_a at_aw (by rfl))) : LD h b o v := l
theorem ldn_aw {h : AH} {n b o : Nat} {cs : List AV} (l : LDN h n b o cs := by (first | ((with_reducible apply gn_c); exact ldp_c at_aw (by decide) tk_auto) | ((with_reducible apply gn_b); exact ldp_b at_aw (by decide) tk_auto) | exact ldw at_aw (by decide) (by rfl) | exact ldp at_aw (by decide) tk_auto)) : LDN h n b o cs := l
theorem wr_aw {h h' : AH} {b o : Nat} {xs : List AV} (w : WR h b o xs h' := by ((repeat (first | exact wr_0 sp_auto | with_reducible apply wr_1 | exact wr_bk bk_aw sp_auto)) <;> fail)) : WR h b o xs h' := w
theorem kp_updb {g h : AH} {b : Nat} {k : Blk} (e : Kp g h [b]) : Kp g (h.upd b k) [b] := e.trans (kp_upd)
theorem kpb_auto {g h : AH} {b : Nat} (a : Kp g h [b] := by ((repeat (first | assumption | with_reducible exact Kp.refl _ _ | with_reducible apply Kp.push | with_reducible apply kp_updb | ((with_reducible apply kp_upd1); exact om_auto) | ((with_reducible apply kp_step); assumption) | ((with_reducible apply kp_stepe); assumption))) <;> fail)) : Kp g h [b] := a
section
variable {P : Program} {n m b i : Nat} {h0 h g : AH} {F0 F : WF} {x : Wld} {v0 v1 v2 v3 v4 v5 v6 v7 v8 v9 v10 : AV} {Q : Nat → List AV → AH → Prop} {p : Prog}
theorem WS.putG (s : WS n m h0 b F0 h x ⟨v0, v1, v2, v3, v4, v5, v6, v7, v8, v9, v10⟩ F) (x' : Wld) {cells : List AV} (hk : ∀ x1, x1 = x' → WS n m h0 b F0 g x1 ⟨v0, v1, v2, v3, v4, v5, v6, v7, v8, v9, v10⟩ F → p.awp P g Q) (bk : Bk g b cells 0 := by exact bk_aw) (hc : cells = x'.cv ⟨v0, v1, v2, v3, v4, v5, v6, v7, v8, v9, v10⟩ := by rfl) (k : Kp h g [b] := by exact kpb_auto) (e0 : x'.c.rule.l = x.c.rule.l := by rfl) (e1 : x'.st = x.st := by rfl) (e2 : x'.cache = x.cache := by rfl) (e3 : x'.w.near = x.w.near := by rfl) (e4 : x'.w.far = x.w.far := by rfl) (e5 : x'.w.rest = x.w.rest := by rfl) (e6 : x'.due = x.due := by rfl) (e7 : x'.queue = x.queue := by rfl) (e8 : x'.out = x.out := by rfl) (e9 : x'.tasks = x.tasks := by rfl) (e10 : x'.deeds = x.deeds := by rfl) : p.awp P g Q := hk x' rfl (s.put (hc ▸ bk) k e0 e1 e2 e3 e4 e5 e6 e7 e8 e9 e10)
end
section
variable {P : Program} {n m b i : Nat} {h0 h : AH} {F0 F : WF} {x : Wld} {v0 v1 v2 v3 v4 v5 v6 v7 v8 v9 v10 : AV} {Q : Nat → List AV → AH → Prop}
end
section
variable {P : Program} {n m b i : Nat} {h0 h : AH} {F0 F : WF} {x : Wld} {v0 v1 v2 v3 v4 v5 v6 v7 v8 v9 v10 : AV} {Q : Nat → List AV → AH → Prop}
theorem WS.app10 (s : WS n m h0 b F0 h x ⟨v0, v1, v2, v3, v4, v5, v6, v7, v8, v9, v10⟩ F) {a : Deed} {cs : List AV} {G : List Nat} {bytes q : Nat} {k : AV → Prog} (ra : Cel.rep h a cs G) (oa : Own q h G) (hq : n ≤ q ∧ m ≤ q) (hG : ∀ c ∈ G, c ≠ b ∧ c ∉ F.a) (hs : (x.deeds.length + 1) * bytes ≤ 70368744177664) (hs2 : x.deeds.length + 1 < 281474976710656)
    (hk : ∀ v h1, Kp h h1 F.f10 → Bk h1 b (x.cv ⟨v0, v1, v2, v3, v4, v5, v6, v7, v8, v9, v10⟩) 0 → v.cells? = some [v] → (∀ {g : AH} {cells : List AV} {p : Prog} {Q' : Nat → List AV → AH → Prop}, (∀ x1 F1, x1 = { x with deeds := x.deeds ++ [a] } → WS n m h0 b F0 g x1 ⟨v0, v1, v2, v3, v4, v5, v6, v7, v8, v9, v⟩ F1 → (∀ c ∈ F1.a, c ∈ F.a ∨ c ∈ G ∨ h.n ≤ c) → p.awp P g Q') → Bk g b cells 0 → cells = Wld.cv { x with deeds := x.deeds ++ [a] } ⟨v0, v1, v2, v3, v4, v5, v6, v7, v8, v9, v⟩ → Kp h1 g [b] → p.awp P g Q') → (k v).awp P h1 Q) : (Prog.op (.app 20 bytes v10 (.sl h.n 0 1)) k).awp P (h.push ⟨cs, 20, 0⟩) Q := by
  have nb := s.w.nb
  have hb := s.w.bk.1
  have hm := s.hm
  refine s.w.app10 ra (oa.mono hq.1 fun _ _ => rfl) hG (by omega) hs hs2 fun v h1 f k1 bk1 q1 fin => hk v h1 k1 bk1 q1.cell fun {g cells p Q'} hk' bk hc kk => ?_
  obtain ⟨F', w', m', k'⟩ := fin g (hc ▸ bk) kk
  refine hk' _ F' rfl (s.to w' k' fun c hc => ?_) m'
  rcases m' c hc with a | a | a
  · exact .inl a
  · exact .inr (by have := (oa.2 c a).1; omega)
  · exact .inr (by omega)
end
theorem vsw {A B : Prop} (hb : B) (s : B → A := by ((apply it; (first | (with_reducible first | exact aw_ite_t | exact aw_ite_f | exact aw_mv | exact aw_fad | exact aw_alloc | exact aw_mkfn | exact aw_leaf | exact aw_pick_t | exact aw_pick_f | exact aw_pick | exact aw_not_t | exact aw_not_f | exact aw_not | exact aw_gop_tt | exact aw_gop_ff | exact aw_gop_tf | exact aw_gop_ft | exact aw_gop_un | exact aw_len_str | exact aw_fin1 | exact aw_fin2 | exact aw_scope | exact aw_tsel_eq | exact aw_nexts | exact w_bneqS | exact w_ineqS | exact w_seqS | exact w_sgeq | exact w_max | exact w_min | exact w_conv8 | exact w_gchk_tt | exact w_gchk_ff | exact w_gchk_tf | exact w_gchk_ft | exact w_gchk_un) | ((with_reducible apply gi_ld1); first | exact w_ld1 ld_aw) | ((with_reducible apply gi_ldn); first | exact w_ldn ldn_aw) | ((with_reducible apply gi_len); first | exact w_len (by assumption)) | ((with_reducible apply gi_box); first | exact aw_box (by rfl)) | ((with_reducible apply gi_st); first | exact w_st (by first | rfl | exact SlRep.cell (by assumption)) (by rfl) wr_aw) | ((with_reducible apply gi_ext); first | exact aw_ext (by rfl)) | ((with_reducible apply gi_fld1); first | exact aw_fld1 (by rfl)) | ((with_reducible apply gi_add); first | exact aw_inc (by omega) | exact aw_addn (by omega) (by omega)) | ((with_reducible apply gi_sub); exact aw_subn (by omega) (by omega)) | ((with_reducible apply gi_rem); exact aw_rem (by decide)) | ((with_reducible apply gi_quo); exact w_quo (by omega) (by decide) (by omega)) | ((with_reducible apply gi_build); first | exact aw_build af_auto) | ((with_reducible apply gi_bslice); first | exact w_bs af_auto (by decide) (by rfl)) | ((with_reducible apply gi_chkn); exact w_chkn ldn_aw) | ((with_reducible apply gi_chk1); exact w_chk1 ld_aw) | ((with_reducible apply gi_sidx); exact sx1 (by assumption)) | ((with_reducible apply gi_fin1); exact aw_fin_1 rv_auto) | ((with_reducible apply gi_fin2); exact aw_fin_2 rv_auto rv_auto) | ((with_reducible apply gi_fin3); exact aw_fin_3 rv_auto rv_auto rv_auto) | (exact aw_tsel_ne (by decide)) | (exact aw_ends (by decide)))); (repeat (apply it; (first | (with_reducible first | exact aw_ite_t | exact aw_ite_f | exact aw_mv | exact aw_fad | exact aw_alloc | exact aw_mkfn | exact aw_leaf | exact aw_pick_t | exact aw_pick_f | exact aw_pick | exact aw_not_t | exact aw_not_f | exact aw_not | exact aw_gop_tt | exact aw_gop_ff | exact aw_gop_tf | exact aw_gop_ft | exact aw_gop_un | exact aw_len_str | exact aw_fin1 | exact aw_fin2 | exact aw_scope | exact aw_tsel_eq | exact aw_nexts | exact w_bneqS | exact w_ineqS | exact w_seqS | exact w_sgeq | exact w_max | exact w_min | exact w_conv8 | exact w_gchk_tt | exact w_gchk_ff | exact w_gchk_tf | exact w_gchk_ft | exact w_gchk_un) | ((with_reducible apply gi_ld1); first | exact w_ld1 ld_aw) | ((with_reducible apply gi_ldn); first | exact w_ldn ldn_aw) | ((with_reducible apply gi_len); first | exact w_len (by assumption)) | ((with_reducible apply gi_box); first | exact aw_box (by rfl)) | ((with_reducible apply gi_st); first | exact w_st (by first | rfl | exact SlRep.cell (by assumption)) (by rfl) wr_aw) | ((with_reducible apply gi_ext); first | exact aw_ext (by rfl)) | ((with_reducible apply gi_fld1); first | exact aw_fld1 (by rfl)) | ((with_reducible apply gi_add); first | exact aw_inc (by omega) | exact aw_addn (by omega) (by omega)) | ((with_reducible apply gi_sub); exact aw_subn (by omega) (by omega)) | ((with_reducible apply gi_rem); exact aw_rem (by decide)) | ((with_reducible apply gi_quo); exact w_quo (by omega) (by decide) (by omega)) | ((with_reducible apply gi_build); first | exact aw_build af_auto) | ((with_reducible apply gi_bslice); first | exact w_bs af_auto (by decide) (by rfl)) | ((with_reducible apply gi_chkn); exact w_chkn ldn_aw) | ((with_reducible apply gi_chk1); exact w_chk1 ld_aw) | ((with_reducible apply gi_sidx); exact sx1 (by assumption)) | ((with_reducible apply gi_fin1); exact aw_fin_1 rv_auto) | ((with_reducible apply gi_fin2); exact aw_fin_2 rv_auto rv_auto) | ((with_reducible apply gi_fin3); exact aw_fin_3 rv_auto rv_auto rv_auto) | (exact aw_tsel_ne (by decide)) | (exact aw_ends (by decide))))); exact fun x => x)) : A := s hb
theorem vsx {A B : Prop} (hb : B) (s : B → A := by ((apply it; (first | (with_reducible first | exact aw_ite_t | exact aw_ite_f | exact aw_mv | exact aw_fad | exact aw_alloc | exact aw_mkfn | exact aw_leaf | exact aw_pick_t | exact aw_pick_f | exact aw_pick | exact aw_not_t | exact aw_not_f | exact aw_not | exact aw_gop_tt | exact aw_gop_ff | exact aw_gop_tf | exact aw_gop_ft | exact aw_gop_un | exact aw_len_str | exact aw_scope | exact aw_tsel_eq | exact aw_nexts | exact w_bneqS | exact w_ineqS | exact w_seqS | exact w_sgeq | exact w_max | exact w_min | exact w_conv8 | exact w_gchk_tt | exact w_gchk_ff | exact w_gchk_tf | exact w_gchk_ft | exact w_gchk_un) | ((with_reducible apply gi_ld1); first | exact w_ld1 ld_aw) | ((with_reducible apply gi_ldn); first | exact w_ldn ldn_aw) | ((with_reducible apply gi_len); first | exact w_len (by assumption)) | ((with_reducible apply gi_box); first | exact aw_box (by rfl)) | ((with_reducible apply gi_st); first | exact w_st (by first | rfl | exact SlRep.cell (by assumption)) (by rfl) wr_aw) | ((with_reducible apply gi_ext); first | exact aw_ext (by rfl)) | ((with_reducible apply gi_fld1); first | exact aw_fld1 (by rfl)) | ((with_reducible apply gi_add); first | exact aw_inc (by omega) | exact aw_addn (by omega) (by omega)) | ((with_reducible apply gi_sub); exact aw_subn (by omega) (by omega)) | ((with_reducible apply gi_rem); exact aw_rem (by decide)) | ((with_reducible apply gi_quo); exact w_quo (by omega) (by decide) (by omega)) | ((with_reducible apply gi_build); first | exact aw_build af_auto) | ((with_reducible apply gi_bslice); first | exact w_bs af_auto (by decide) (by rfl)) | ((with_reducible apply gi_chkn); exact w_chkn ldn_aw) | ((with_reducible apply gi_chk1); exact w_chk1 ld_aw) | ((with_reducible apply gi_sidx); exact sx1 (by assumption)) | (exact aw_tsel_ne (by decide)) | (exact aw_ends (by decide)))); (repeat (apply it; (first | (with_reducible first | exact aw_ite_t | exact aw_ite_f | exact aw_mv | exact aw_fad | exact aw_alloc | exact aw_mkfn | exact aw_leaf | exact aw_pick_t | exact aw_pick_f | exact aw_pick | exact aw_not_t | exact aw_not_f | exact aw_not | exact aw_gop_tt | exact aw_gop_ff | exact aw_gop_tf | exact aw_gop_ft | exact aw_gop_un | exact aw_len_str | exact aw_scope | exact aw_tsel_eq | exact aw_nexts | exact w_bneqS | exact w_ineqS | exact w_seqS | exact w_sgeq | exact w_max | exact w_min | exact w_conv8 | exact w_gchk_tt | exact w_gchk_ff | exact w_gchk_tf | exact w_gchk_ft | exact w_gchk_un) | ((with_reducible apply gi_ld1); first | exact w_ld1 ld_aw) | ((with_reducible apply gi_ldn); first | exact w_ldn ldn_aw) | ((with_reducible apply gi_len); first | exact w_len (by assumption)) | ((with_reducible apply gi_box); first | exact aw_box (by rfl)) | ((with_reducible apply gi_st); first | exact w_st (by first | rfl | exact SlRep.cell (by assumption)) (by rfl) wr_aw) | ((with_reducible apply gi_ext); first | exact aw_ext (by rfl)) | ((with_reducible apply gi_fld1); first | exact aw_fld1 (by rfl)) | ((with_reducible apply gi_add); first | exact aw_inc (by omega) | exact aw_addn (by omega) (by omega)) | ((with_reducible apply gi_sub); exact aw_subn (by omega) (by omega)) | ((with_reducible apply gi_rem); exact aw_rem (by decide)) | ((with_reducible apply gi_quo); exact w_quo (by omega) (by decide) (by omega)) | ((with_reducible apply gi_build); first | exact aw_build af_auto) | ((with_reducible apply gi_bslice); first | exact w_bs af_auto (by decide) (by rfl)) | ((with_reducible apply gi_chkn); exact w_chkn ldn_aw) | ((with_reducible apply gi_chk1); exact w_chk1 ld_aw) | ((with_reducible apply gi_sidx); exact sx1 (by assumption)) | (exact aw_tsel_ne (by decide)) | (exact aw_ends (by decide))))); exact fun x => x)) : A := s hb
end Go.Ab
