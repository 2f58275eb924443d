/- The walk through a shallow program: each step, with what it asks filled in. -/
import Derived.Test.YtnjlcedbnkelaaaAb30
set_option linter.unusedSimpArgs false
set_option linter.unusedVariables false
namespace Go.Ab
open Go.RowKit

theorem ext_auto {a b : AH} (e : Ext a b := by (repeat (first | assumption | exact Ext.refl _ | refine Ext.push ?_ _ | refine Ext.upd ?_ (by first | omega | (simp; done)) _ | refine Ext.trans ?_ (by assumption)))) : Ext a b := e
theorem At.toExt {h0 h : AH} {b o : Nat} {cs : List AV} (a : At h0 b o cs) (e : Ext h0 h) : At h b o cs := a.ext e

/-- What a cell holds. -/
def LD (h : AH) (b o : Nat) (v : AV) : Prop := (h.get b).cells[o]? = some v ∧ live h b
def LDN (h : AH) (n b o : Nat) (cs : List AV) : Prop := ((h.get b).cells.drop o).take n = cs ∧ 0 < n ∧ cs.length = n ∧ live h b

section
variable {h h0 : AH}
theorem ld_b {b o j : Nat} {v : AV} {cs : List AV} (a : At h b o cs) (hv : cs[j]? = some v) : LD h b (o + j) v := ⟨a.get hv, a.2.1⟩
theorem ld_a {b o : Nat} {v : AV} {cs : List AV} (a : At h b o cs) (hv : cs[0]? = some v) : LD h b o v := ld_b a hv
theorem ld_c {b o i j : Nat} {v : AV} {cs : List AV} (a : At h b o cs) (hv : cs[i + j]? = some v) : LD h b (o + i + j) v := by rw [Nat.add_assoc]; exact ld_b a hv
theorem ldn_b {b o j n : Nat} {cs cs' : List AV} (a : At h b o cs) (n0 : 0 < n) (hc : (cs.drop j).take n = cs') (hn : cs'.length = n) : LDN h n b (o + j) cs' := by
  have a' := (a.drop j).take n
  rw [hc] at a'
  have := a'.2.2
  rw [hn] at this
  exact ⟨this, n0, hn, a'.2.1⟩
theorem ldn_a {b o n : Nat} {cs cs' : List AV} (a : At h b o cs) (n0 : 0 < n) (hc : cs.take n = cs') (hn : cs'.length = n) : LDN h n b o cs' := by simpa using ldn_b (j := 0) a n0 (by simpa using hc) hn
theorem ldn_c {b o i j n : Nat} {cs cs' : List AV} (a : At h b o cs) (n0 : 0 < n) (hc : (cs.drop (i + j)).take n = cs') (hn : cs'.length = n) : LDN h n b (o + i + j) cs' := by rw [Nat.add_assoc]; exact ldn_b a n0 hc hn

/-- A heap in which a block of the run's own is written. -/
def WR (h : AH) (b o : Nat) (xs : List AV) (h' : AH) : Prop := mine h b ∧ o + xs.length ≤ (h.get b).cells.length ∧ b < h.n ∧ h' = h.upd b { h.get b with cells := splice (h.get b).cells o xs }
/-- Cells over cells, written out. -/
def S0 (cs xs cs' : List AV) : Prop := xs.length ≤ cs.length ∧ xs ++ cs.drop xs.length = cs'
def SP (cs : List AV) (o : Nat) (xs cs' : List AV) : Prop := o + xs.length ≤ cs.length ∧ splice cs o xs = cs'
theorem s0_n {cs : List AV} : S0 cs [] cs := ⟨by simp, by simp⟩
theorem s0_c {c x : AV} {cs xs cs' : List AV} (s : S0 cs xs cs') : S0 (c :: cs) (x :: xs) (x :: cs') := ⟨by have := s.1; simp; omega, by simp [s.2]⟩
theorem sp_0 {cs xs cs' : List AV} (s : S0 cs xs cs') : SP cs 0 xs cs' := ⟨by have := s.1; omega, by simp [splice, s.2]⟩
theorem sp_s {c : AV} {o : Nat} {cs xs cs' : List AV} (s : SP cs o xs cs') : SP (c :: cs) (o + 1) xs (c :: cs') := by
  obtain ⟨h1, rfl⟩ := s
  refine ⟨by simp; omega, ?_⟩
  unfold splice
  rw [show o + 1 + xs.length = o + xs.length + 1 by omega]; simp
/-- A part of cells, written out. -/
def T0 (n : Nat) (cs cs' : List AV) : Prop := cs.take n = cs' ∧ cs'.length = n
def TK (j n : Nat) (cs cs' : List AV) : Prop := (cs.drop j).take n = cs' ∧ cs'.length = n
theorem t0_0 {cs : List AV} : T0 0 cs [] := ⟨by simp, rfl⟩
theorem t0_s {c : AV} {n : Nat} {cs cs' : List AV} (s : T0 n cs cs') : T0 (n + 1) (c :: cs) (c :: cs') := ⟨by simp [s.1], by simp [s.2]⟩
theorem tk_0 {n : Nat} {cs cs' : List AV} (s : T0 n cs cs') : TK 0 n cs cs' := ⟨by simpa using s.1, s.2⟩
theorem tk_s {c : AV} {j n : Nat} {cs cs' : List AV} (s : TK j n cs cs') : TK (j + 1) n (c :: cs) cs' := ⟨by simpa using s.1, s.2⟩
theorem wr_0 {o : Nat} {cs cs' xs : List AV} {es : Nat} (s : SP cs o xs cs') : WR (h.push ⟨cs, es, 0⟩) h.n o xs (h.push ⟨cs', es, 0⟩) := by
  obtain ⟨ho, rfl⟩ := s
  refine ⟨by simp [mine], by simpa using ho, by simp, ?_⟩
  simp only [push_get, if_true, upd_push_self]
theorem ldw {b o n : Nat} {cs : List AV} (a : At h b o cs) (n0 : 0 < n) (hn : cs.length = n) : LDN h n b o cs := by
  subst hn
  exact ⟨a.2.2, n0, rfl, a.2.1⟩
theorem ldp {b o n : Nat} {cs cs' : List AV} (a : At h b o cs) (n0 : 0 < n) (t : TK 0 n cs cs') : LDN h n b o cs' := ldn_a a n0 (by simpa using t.1) t.2
theorem ldp_b {b o j n : Nat} {cs cs' : List AV} (a : At h b o cs) (n0 : 0 < n) (t : TK j n cs cs') : LDN h n b (o + j) cs' := ldn_b a n0 t.1 t.2
theorem ldp_c {b o i j n : Nat} {cs cs' : List AV} (a : At h b o cs) (n0 : 0 < n) (t : TK (i + j) n cs cs') : LDN h n b (o + i + j) cs' := ldn_c a n0 t.1 t.2
theorem wr_1 {b o : Nat} {xs : List AV} {h' : AH} {k : Blk} (w : WR h b o xs h') : WR (h.push k) b o xs (h'.push k) := by
  obtain ⟨w1, w2, w3, rfl⟩ := w
  have e : b ≠ h.n := by omega
  refine ⟨by simpa [mine, e] using w1, by simpa [e] using w2, by simp; omega, ?_⟩
  rw [upd_push_lt w3]; simp [e]
end

section
variable {α : Type} [Cel α] {P : Program} {h h0 h' : AH} {Q : Nat → List AV → AH → Prop} {k : AV → Prog}
theorem w_ld1 {b o : Nat} {v : AV} (l : LD h b o v) (hk : (k v).awp P h Q) : (Prog.op (.ld1 (.ptr b o)) k).awp P h Q := aw_ld1 l.1 l.2 hk
theorem w_ldn {n b o : Nat} {cs : List AV} (l : LDN h n b o cs) (hk : (k (.agg cs)).awp P h Q) : (Prog.op (.ldn n (.ptr b o)) k).awp P h Q := aw_ldn l.1 l.2.1 l.2.2.1 l.2.2.2 hk
theorem w_st {n b o : Nat} {x : AV} {xs : List AV} (hx : x.cells? = some xs) (hn : xs.length = n) (w : WR h b o xs h') (hk : (k (.tup [])).awp P h' Q) : (Prog.op (.st n (.ptr b o) x) k).awp P h Q := by
  obtain ⟨w1, w2, w3, rfl⟩ := w
  exact aw_st w1 hx hn (by omega) hk
theorem w_chkn {n b o : Nat} {cs : List AV} {p : Prog} (l : LDN h n b o cs) (hk : p.awp P h Q) : (Prog.chk (.ldn n (.ptr b o)) (.agg cs) p).awp P h Q := by
  refine ⟨?_, hk⟩
  have := w_ldn (P := P) (k := fun v => .leaf 0 [v]) (Q := fun t vs h' => vs = [.agg cs] ∧ h' = h) l ⟨rfl, rfl⟩
  simp only [Prog.awp, AOp.go, List.cons.injEq, and_true] at this
  simp only [AOp.still, AOp.go, and_true]
  exact this
theorem w_chk1 {b o : Nat} {v : AV} {p : Prog} (l : LD h b o v) (hk : p.awp P h Q) : (Prog.chk (.ld1 (.ptr b o)) v p).awp P h Q := by
  refine ⟨?_, hk⟩
  have := w_ld1 (P := P) (k := fun v => .leaf 0 [v]) (Q := fun t vs h' => vs = [v] ∧ h' = h) l ⟨rfl, rfl⟩
  simp only [Prog.awp, AOp.go, List.cons.injEq, and_true] at this
  simp only [AOp.still, AOp.go, and_true]
  exact this
theorem w_len {v : AV} {xs : List α} {F : List Nat} (r : SlRep h0 v xs F) (hk : (k (.int .i64 xs.length)).awp P h Q) : (Prog.op (.len 0 v) k).awp P h Q := aw_len r hk
theorem w_bs {es n : Nat} {zero cs : List AV} {parts : List (Nat × Nat × AV)} (hc : afill zero parts = some cs) (h1 : n * es ≤ 16777216) (h2 : cs.length = n * es) (hk : (k (.sl h.n 0 n)).awp P (h.push ⟨cs, es, 0⟩) Q) : (Prog.op (.bslice es n zero parts) k).awp P h Q := aw_bslice hc h1 h2 hk
theorem rv_v {v : AV} : (RV.val v).get h = some v := rfl
theorem rv_n {b o n : Nat} {cs : List AV} (l : LDN h n b o cs) : (RV.cn n (.ptr b o)).get h = some (.agg cs) := by
  obtain ⟨h1, h0, h3, h2⟩ := l
  have : o + n ≤ (h.get b).cells.length := by
    have := congrArg List.length h1
    simp only [List.length_take, List.length_drop] at this; omega
  have h2 : (h.get b).st ≠ 2 := h2
  simp only [RV.get, h2, if_false, this, if_true, h1]
theorem rv_1 {b o : Nat} {v : AV} (l : LD h b o v) : (RV.c1 (.ptr b o)).get h = some v := by
  have h2 : (h.get b).st ≠ 2 := l.2
  simp only [RV.get, h2, if_false, l.1]
theorem w_gop {b w : Bool} {o : AOp} (h1 : b = w → (Prog.op o k).awp P h Q) (h2 : b = !w → (k (.tup [])).awp P h Q) : (Prog.gop (.bool b) w o k).awp P h Q := by
  simp only [Prog.awp]
  split
  · rename_i e; exact h1 e
  · rename_i e; exact h2 (by cases b <;> cases w <;> simp_all)
end

/-- A heap's place, found. -/
theorem at_auto {h : AH} {b o : Nat} {cs : List AV} (a : At h b o cs := by (first | assumption | exact at_push | exact At.toExt (by assumption) ext_auto | (with_reducible apply At.push; repeat (first | assumption | exact at_push | exact At.toExt (by assumption) ext_auto | with_reducible apply At.push)))) : At h b o cs := a
theorem sp_auto {cs xs cs' : List AV} {o : Nat} (s : SP cs o xs cs' := by (repeat (first | apply sp_0 | apply sp_s | exact s0_n | apply s0_c))) : SP cs o xs cs' := s
theorem tk_auto {j n : Nat} {cs cs' : List AV} (s : TK j n cs cs' := by (repeat (first | apply tk_0 | apply tk_s | exact t0_0 | apply t0_s))) : TK j n cs cs' := s
theorem ld_auto {h : AH} {b o : Nat} {v : AV} (l : LD h b o v := by (first | exact ld_a at_auto (by rfl) | exact ld_b at_auto (by rfl) | exact ld_c at_auto (by rfl))) : LD h b o v := l
theorem ldn_auto {h : AH} {n b o : Nat} {cs : List AV} (l : LDN h n b o cs := by (first | exact ldw at_auto (by decide) (by rfl) | exact ldp at_auto (by decide) tk_auto | exact ldp_b at_auto (by decide) tk_auto | exact ldp_c at_auto (by decide) tk_auto)) : LDN h n b o cs := l
theorem wr_auto {h h' : AH} {b o : Nat} {xs : List AV} (w : WR h b o xs h' := by (repeat (first | exact wr_0 sp_auto | with_reducible apply wr_1))) : WR h b o xs h' := w
theorem rv_auto {h : AH} {r : RV} {v : AV} (e : r.get h = some v := by (first | with_reducible exact rv_v | (with_reducible apply rv_1; exact ld_auto) | (with_reducible apply rv_n; exact ldn_auto))) : r.get h = some v := e

theorem it {A B C : Prop} (f : B → A) (g : C → B) : C → A := fun c => f (g c)
section
variable {B : Prop} {P : Program} {h : AH} {Q : Nat → List AV → AH → Prop} {k : AV → Prog}
theorem gi_ld1 {a : AV} (y : B → (Prog.op (.ld1 a) k).awp P h Q) : B → (Prog.op (.ld1 a) k).awp P h Q := y
theorem gi_ldn {n : Nat} {a : AV} (y : B → (Prog.op (.ldn n a) k).awp P h Q) : B → (Prog.op (.ldn n a) k).awp P h Q := y
theorem gi_len {n : Nat} {a : AV} (y : B → (Prog.op (.len n a) k).awp P h Q) : B → (Prog.op (.len n a) k).awp P h Q := y
theorem gi_box {a : AV} (y : B → (Prog.op (.box a) k).awp P h Q) : B → (Prog.op (.box a) k).awp P h Q := y
theorem gi_st {n : Nat} {a : AV} {x : AV} (y : B → (Prog.op (.st n a x) k).awp P h Q) : B → (Prog.op (.st n a x) k).awp P h Q := y
theorem gi_ext {n : Nat} {a : AV} (y : B → (Prog.op (.ext a n) k).awp P h Q) : B → (Prog.op (.ext a n) k).awp P h Q := y
theorem gi_fld1 {n : Nat} {a : AV} (y : B → (Prog.op (.fld1 n a) k).awp P h Q) : B → (Prog.op (.fld1 n a) k).awp P h Q := y
theorem gi_bin {n : Nat} {a : AV} {x : AV} {o : BinOp} (y : B → (Prog.op (.bin n o a x) k).awp P h Q) : B → (Prog.op (.bin n o a x) k).awp P h Q := y
theorem gi_build {z : List AV} {ps : List (Nat × Nat × AV)} (y : B → (Prog.op (.build z ps) k).awp P h Q) : B → (Prog.op (.build z ps) k).awp P h Q := y
theorem gi_bslice {n : Nat} {j : Nat} {z : List AV} {ps : List (Nat × Nat × AV)} (y : B → (Prog.op (.bslice n j z ps) k).awp P h Q) : B → (Prog.op (.bslice n j z ps) k).awp P h Q := y
theorem gi_fin1 {r : RV} (y : B → (Prog.fin [r]).awp P h Q) : B → (Prog.fin [r]).awp P h Q := y
theorem gi_fin2 {r r2 : RV} (y : B → (Prog.fin [r, r2]).awp P h Q) : B → (Prog.fin [r, r2]).awp P h Q := y
theorem gi_fin3 {r r2 r3 : RV} (y : B → (Prog.fin [r, r2, r3]).awp P h Q) : B → (Prog.fin [r, r2, r3]).awp P h Q := y
theorem gi_chkn {n : Nat} {a v : AV} {p : Prog} (y : B → (Prog.chk (.ldn n a) v p).awp P h Q) : B → (Prog.chk (.ldn n a) v p).awp P h Q := y
theorem gi_chk1 {a v : AV} {p : Prog} (y : B → (Prog.chk (.ld1 a) v p).awp P h Q) : B → (Prog.chk (.ld1 a) v p).awp P h Q := y
theorem gi_add {n : Nat} {a x : AV} (y : B → (Prog.op (.bin n .add a x) k).awp P h Q) : B → (Prog.op (.bin n .add a x) k).awp P h Q := y
theorem gi_sub {n : Nat} {a x : AV} (y : B → (Prog.op (.bin n .sub a x) k).awp P h Q) : B → (Prog.op (.bin n .sub a x) k).awp P h Q := y
theorem gi_rem {n : Nat} {a x : AV} (y : B → (Prog.op (.bin n .rem a x) k).awp P h Q) : B → (Prog.op (.bin n .rem a x) k).awp P h Q := y
end
/-- One step and more. -/
theorem vs {A B : Prop} (hb : B) (s : B → A := by ((apply it; (first | (with_reducible first | exact aw_ite_t | exact aw_ite_f | exact aw_mv | exact aw_fad | exact aw_alloc | exact aw_mkfn | exact aw_leaf | exact aw_pick_t | exact aw_pick_f | exact aw_pick | exact aw_not_t | exact aw_not_f | exact aw_not | exact aw_gop_tt | exact aw_gop_ff | exact aw_gop_tf | exact aw_gop_ft | exact aw_gop_un | exact aw_len_str | exact aw_fin1 | exact aw_fin2 | exact aw_scope | exact aw_tsel_eq | exact aw_nexts | exact aw_beql | exact aw_bneq) | ((with_reducible apply gi_ld1); first | exact w_ld1 ld_auto) | ((with_reducible apply gi_ldn); first | exact w_ldn ldn_auto) | ((with_reducible apply gi_len); first | exact w_len (by assumption)) | ((with_reducible apply gi_box); first | exact aw_box (by rfl)) | ((with_reducible apply gi_st); first | exact w_st (by rfl) (by rfl) wr_auto) | ((with_reducible apply gi_ext); first | exact aw_ext (by rfl)) | ((with_reducible apply gi_fld1); first | exact aw_fld1 (by rfl)) | ((with_reducible apply gi_add); first | exact aw_inc (by omega) | exact aw_addn (by omega) (by omega)) | ((with_reducible apply gi_sub); exact aw_subn (by omega) (by omega)) | ((with_reducible apply gi_rem); exact aw_rem (by decide)) | ((with_reducible apply gi_build); first | exact aw_build (by rfl)) | ((with_reducible apply gi_bslice); first | exact w_bs (by rfl) (by decide) (by rfl)) | ((with_reducible apply gi_chkn); exact w_chkn ldn_auto) | ((with_reducible apply gi_chk1); exact w_chk1 ld_auto) | ((with_reducible apply gi_fin1); exact aw_fin_1 rv_auto) | ((with_reducible apply gi_fin2); exact aw_fin_2 rv_auto rv_auto) | ((with_reducible apply gi_fin3); exact aw_fin_3 rv_auto rv_auto rv_auto) | (exact aw_tsel_ne (by decide)) | (exact aw_ends (by decide)))); (repeat (apply it; (first | (with_reducible first | exact aw_ite_t | exact aw_ite_f | exact aw_mv | exact aw_fad | exact aw_alloc | exact aw_mkfn | exact aw_leaf | exact aw_pick_t | exact aw_pick_f | exact aw_pick | exact aw_not_t | exact aw_not_f | exact aw_not | exact aw_gop_tt | exact aw_gop_ff | exact aw_gop_tf | exact aw_gop_ft | exact aw_gop_un | exact aw_len_str | exact aw_fin1 | exact aw_fin2 | exact aw_scope | exact aw_tsel_eq | exact aw_nexts | exact aw_beql | exact aw_bneq) | ((with_reducible apply gi_ld1); first | exact w_ld1 ld_auto) | ((with_reducible apply gi_ldn); first | exact w_ldn ldn_auto) | ((with_reducible apply gi_len); first | exact w_len (by assumption)) | ((with_reducible apply gi_box); first | exact aw_box (by rfl)) | ((with_reducible apply gi_st); first | exact w_st (by rfl) (by rfl) wr_auto) | ((with_reducible apply gi_ext); first | exact aw_ext (by rfl)) | ((with_reducible apply gi_fld1); first | exact aw_fld1 (by rfl)) | ((with_reducible apply gi_add); first | exact aw_inc (by omega) | exact aw_addn (by omega) (by omega)) | ((with_reducible apply gi_sub); exact aw_subn (by omega) (by omega)) | ((with_reducible apply gi_rem); exact aw_rem (by decide)) | ((with_reducible apply gi_build); first | exact aw_build (by rfl)) | ((with_reducible apply gi_bslice); first | exact w_bs (by rfl) (by decide) (by rfl)) | ((with_reducible apply gi_chkn); exact w_chkn ldn_auto) | ((with_reducible apply gi_chk1); exact w_chk1 ld_auto) | ((with_reducible apply gi_fin1); exact aw_fin_1 rv_auto) | ((with_reducible apply gi_fin2); exact aw_fin_2 rv_auto rv_auto) | ((with_reducible apply gi_fin3); exact aw_fin_3 rv_auto rv_auto rv_auto) | (exact aw_tsel_ne (by decide)) | (exact aw_ends (by decide))))); exact fun x => x)) : A := s hb
/-- Two ways. -/
theorem br {A B C : Prop} (b : B) (c : C) (s : B → C → A := by (with_reducible first | exact aw_lss | exact aw_leq | exact aw_gtr | exact aw_geq | exact aw_eql | exact aw_neq | exact aw_seql | exact aw_sneq | exact aw_ite | exact w_gop)) : A := s b c
/-- An element. -/
theorem ix {α : Type} [Cel α] {P : Program} {h h0 : AH} {Q : Nat → List AV → AH → Prop} {k : AV → Prog} {v : AV} {xs : List α} {F : List Nat} {es i : Nat} {q : IntKind} {x : α} (hk : ∀ b o cs Fi, At h0 b o cs → Cel.rep h0 x cs Fi → (∀ y ∈ Fi, y ∈ F) → (k (.ptr b o)).awp P h Q) (r : SlRep h0 v xs F := by assumption) (hx : xs[i]? = some x := by assumption) (hw : es = Cel.w α := by rfl) : (Prog.op (.idx es v (.int q i)) k).awp P h Q := aw_idx r hx hw hk
theorem ixi {α : Type} [Cel α] {P : Program} {h h0 : AH} {Q : Nat → List AV → AH → Prop} {k : AV → Prog} {v : AV} {xs : List α} {F : List Nat} {es : Nat} {i : Int} {q : IntKind} {x : α} (hk : ∀ b o cs Fi, At h0 b o cs → Cel.rep h0 x cs Fi → (∀ y ∈ Fi, y ∈ F) → (k (.ptr b o)).awp P h Q) (r : SlRep h0 v xs F := by assumption) (hi : 0 ≤ i := by omega) (hx : xs[i.toNat]? = some x := by assumption) (hw : es = Cel.w α := by rfl) : (Prog.op (.idx es v (.int q i)) k).awp P h Q := aw_idxi r hi hx hw hk
end Go.Ab
