/- The walk through a shallow program: each step, with what it asks filled in. -/
import Derived.Test.YtjikmaajdpcnhaaAb30
set_option linter.unusedSimpArgs false
set_option linter.unusedVariables false
namespace Go.Ab
open Go.RowKit

theorem om_auto {p : Prop} (h : p := by (first | omega | (simp only [push_n, upd_n]; omega) | (simp only [push_n, upd_n] at *; omega) | (simp; done))) : p := h
theorem ext_kp1 {g h h0 : AH} {X : List Nat} (k : Kp g h X) (e : Ext h0 g) (hl : ∀ b ∈ X, h0.n ≤ b) : Ext h0 h := k.ext e hl
theorem low_own {h0 h : AH} {n : Nat} {X : List Nat} (o : Own n h X) (hn : h0.n ≤ n) : ∀ b ∈ X, h0.n ≤ b := fun b hb => Nat.le_trans hn (o.2 b hb).1
theorem ext_auto {a b : AH} (e : Ext a b := by (repeat (first | assumption | exact Ext.refl _ | refine Ext.push ?_ _ | refine Ext.upd ?_ om_auto _ | refine Ext.trans ?_ (by assumption) | ((with_reducible apply ext_kp1); assumption) | exact low_own (by assumption) om_auto))) : Ext a b := e
theorem At.toExt {h0 h : AH} {b o : Nat} {cs : List AV} (a : At h0 b o cs) (e : Ext h0 h) : At h b o cs := a.ext e

/-- What a cell holds. -/
def LD (h : AH) (b o : Nat) (v : AV) : Prop := (h.get b).cells[o]? = some v ∧ live h b
def LDN (h : AH) (n b o : Nat) (cs : List AV) : Prop := ((h.get b).cells.drop o).take n = cs ∧ 0 < n ∧ cs.length = n ∧ live h b

section
variable {h h0 : AH}
theorem ld_b {b o j : Nat} {v : AV} {cs : List AV} (a : At h b o cs) (hv : cs[j]? = some v) : LD h b (o + j) v := ⟨a.get hv, a.2.1⟩
theorem ld_a {b o : Nat} {v : AV} {cs : List AV} (a : At h b o cs) (hv : cs[0]? = some v) : LD h b o v := ld_b a hv
theorem ld_c {b o i j : Nat} {v : AV} {cs : List AV} (a : At h b o cs) (hv : cs[i + j]? = some v) : LD h b (o + i + j) v := by rw [Nat.add_assoc]; exact ld_b a hv
theorem ldn_b {b o j n : Nat} {cs cs' : List AV} (a : At h b o cs) (n0 : 0 < n) (hc : (cs.drop j).take n = cs') (hn : cs'.length = n) : LDN h n b (o + j) cs' := by
  have a' := (a.drop j).take n
  rw [hc] at a'
  have := a'.2.2
  rw [hn] at this
  exact ⟨this, n0, hn, a'.2.1⟩
theorem ldn_a {b o n : Nat} {cs cs' : List AV} (a : At h b o cs) (n0 : 0 < n) (hc : cs.take n = cs') (hn : cs'.length = n) : LDN h n b o cs' := by simpa using ldn_b (j := 0) a n0 (by simpa using hc) hn
theorem ldn_c {b o i j n : Nat} {cs cs' : List AV} (a : At h b o cs) (n0 : 0 < n) (hc : (cs.drop (i + j)).take n = cs') (hn : cs'.length = n) : LDN h n b (o + i + j) cs' := by rw [Nat.add_assoc]; exact ldn_b a n0 hc hn

theorem gl_c {b o i j : Nat} {v : AV} (x : LD h b (o + i + j) v) : LD h b (o + i + j) v := x
theorem gl_b {b o j : Nat} {v : AV} (x : LD h b (o + j) v) : LD h b (o + j) v := x
theorem gn_c {b n o i j : Nat} {v : List AV} (x : LDN h n b (o + i + j) v) : LDN h n b (o + i + j) v := x
theorem gn_b {b n o j : Nat} {v : List AV} (x : LDN h n b (o + j) v) : LDN h n b (o + j) v := x
/-- A heap in which a block of the run's own is written. -/
def WR (h : AH) (b o : Nat) (xs : List AV) (h' : AH) : Prop := mine h b ∧ o + xs.length ≤ (h.get b).cells.length ∧ b < h.n ∧ h' = h.upd b { h.get b with cells := splice (h.get b).cells o xs }
/-- Cells over cells, written out. -/
structure S0 (cs xs cs' : List AV) : Prop where
  a : xs.length ≤ cs.length
  b : xs ++ cs.drop xs.length = cs'
structure SP (cs : List AV) (o : Nat) (xs cs' : List AV) : Prop where
  a : o + xs.length ≤ cs.length
  b : splice cs o xs = cs'
theorem s0_n {cs : List AV} : S0 cs [] cs := ⟨by simp, by simp⟩
theorem s0_c {c x : AV} {cs xs cs' : List AV} (s : S0 cs xs cs') : S0 (c :: cs) (x :: xs) (x :: cs') := ⟨by have := s.1; simp; omega, by simp [s.2]⟩
theorem sp_0 {cs xs cs' : List AV} (s : S0 cs xs cs') : SP cs 0 xs cs' := ⟨by have := s.1; omega, by simp [splice, s.2]⟩
theorem sp_s {c : AV} {o : Nat} {cs xs cs' : List AV} (s : SP cs o xs cs') : SP (c :: cs) (o + 1) xs (c :: cs') := by
  obtain ⟨h1, rfl⟩ := s
  refine ⟨by simp; omega, ?_⟩
  unfold splice
  rw [show o + 1 + xs.length = o + xs.length + 1 by omega]; simp
/-- A part of cells, written out. -/
structure T0 (n : Nat) (cs cs' : List AV) : Prop where
  a : cs.take n = cs'
  b : cs'.length = n
structure TK (j n : Nat) (cs cs' : List AV) : Prop where
  a : (cs.drop j).take n = cs'
  b : cs'.length = n
theorem t0_0 {cs : List AV} : T0 0 cs [] := ⟨by simp, rfl⟩
theorem t0_s {c : AV} {n : Nat} {cs cs' : List AV} (s : T0 n cs cs') : T0 (n + 1) (c :: cs) (c :: cs') := ⟨by simp [s.1], by simp [s.2]⟩
theorem tk_0 {n : Nat} {cs cs' : List AV} (s : T0 n cs cs') : TK 0 n cs cs' := ⟨by simpa using s.1, s.2⟩
theorem tk_s {c : AV} {j n : Nat} {cs cs' : List AV} (s : TK j n cs cs') : TK (j + 1) n (c :: cs) cs' := ⟨by simpa using s.1, s.2⟩
theorem wr_0 {o : Nat} {cs cs' xs : List AV} {es : Nat} (s : SP cs o xs cs') : WR (h.push ⟨cs, es, 0⟩) h.n o xs (h.push ⟨cs', es, 0⟩) := by
  obtain ⟨ho, rfl⟩ := s
  refine ⟨by simp [mine], by simpa using ho, by simp, ?_⟩
  simp only [push_get, if_true, upd_push_self]
theorem ldw {b o n : Nat} {cs : List AV} (a : At h b o cs) (n0 : 0 < n) (hn : cs.length = n) : LDN h n b o cs := by
  subst hn
  exact ⟨a.2.2, n0, rfl, a.2.1⟩
theorem ldp {b o n : Nat} {cs cs' : List AV} (a : At h b o cs) (n0 : 0 < n) (t : TK 0 n cs cs') : LDN h n b o cs' := ldn_a a n0 (by simpa using t.1) t.2
theorem ldp_b {b o j n : Nat} {cs cs' : List AV} (a : At h b o cs) (n0 : 0 < n) (t : TK j n cs cs') : LDN h n b (o + j) cs' := ldn_b a n0 t.1 t.2
theorem ldp_c {b o i j n : Nat} {cs cs' : List AV} (a : At h b o cs) (n0 : 0 < n) (t : TK (i + j) n cs cs') : LDN h n b (o + i + j) cs' := ldn_c a n0 t.1 t.2
theorem wr_1 {b o : Nat} {xs : List AV} {h' : AH} {k : Blk} (w : WR h b o xs h') : WR (h.push k) b o xs (h'.push k) := by
  obtain ⟨w1, w2, w3, rfl⟩ := w
  have e : b ≠ h.n := by omega
  refine ⟨by simpa [mine, e] using w1, by simpa [e] using w2, by simp; omega, ?_⟩
  rw [upd_push_lt w3]; simp [e]
end

section
variable {α : Type} [Cel α] {P : Program} {h h0 h' : AH} {Q : Nat → List AV → AH → Prop} {k : AV → Prog}
theorem w_ld1 {b o : Nat} {v : AV} (l : LD h b o v) (hk : (k v).awp P h Q) : (Prog.op (.ld1 (.ptr b o)) k).awp P h Q := aw_ld1 l.1 l.2 hk
theorem w_ldn {n b o : Nat} {cs : List AV} (l : LDN h n b o cs) (hk : (k (.agg cs)).awp P h Q) : (Prog.op (.ldn n (.ptr b o)) k).awp P h Q := aw_ldn l.1 l.2.1 l.2.2.1 l.2.2.2 hk
theorem w_st {n b o : Nat} {x : AV} {xs : List AV} (hx : x.cells? = some xs) (hn : xs.length = n) (w : WR h b o xs h') (hk : (k (.tup [])).awp P h' Q) : (Prog.op (.st n (.ptr b o) x) k).awp P h Q := by
  obtain ⟨w1, w2, w3, rfl⟩ := w
  exact aw_st w1 hx hn (by omega) hk
theorem w_chkn {n b o : Nat} {cs : List AV} {p : Prog} (l : LDN h n b o cs) (hk : p.awp P h Q) : (Prog.chk (.ldn n (.ptr b o)) (.agg cs) p).awp P h Q := by
  refine ⟨?_, hk⟩
  have := w_ldn (P := P) (k := fun v => .leaf 0 [v]) (Q := fun t vs h' => vs = [.agg cs] ∧ h' = h) l ⟨rfl, rfl⟩
  simp only [Prog.awp, AOp.go, List.cons.injEq, and_true] at this
  simp only [AOp.still, AOp.go, and_true]
  exact this
theorem w_chk1 {b o : Nat} {v : AV} {p : Prog} (l : LD h b o v) (hk : p.awp P h Q) : (Prog.chk (.ld1 (.ptr b o)) v p).awp P h Q := by
  refine ⟨?_, hk⟩
  have := w_ld1 (P := P) (k := fun v => .leaf 0 [v]) (Q := fun t vs h' => vs = [v] ∧ h' = h) l ⟨rfl, rfl⟩
  simp only [Prog.awp, AOp.go, List.cons.injEq, and_true] at this
  simp only [AOp.still, AOp.go, and_true]
  exact this
theorem w_len {v : AV} {xs : List α} {F : List Nat} (r : SlRep h0 v xs F) (hk : (k (.int .i64 xs.length)).awp P h Q) : (Prog.op (.len 0 v) k).awp P h Q := aw_len r hk
theorem w_bs {es n : Nat} {zero cs : List AV} {parts : List (Nat × Nat × AV)} (hc : afill zero parts = some cs) (h1 : n * es ≤ 16777216) (h2 : cs.length = n * es) (hk : (k (.sl h.n 0 n)).awp P (h.push ⟨cs, es, 0⟩) Q) : (Prog.op (.bslice es n zero parts) k).awp P h Q := aw_bslice hc h1 h2 hk
theorem rv_v {v : AV} : (RV.val v).get h = some v := rfl
theorem rv_n {b o n : Nat} {cs : List AV} (l : LDN h n b o cs) : (RV.cn n (.ptr b o)).get h = some (.agg cs) := by
  obtain ⟨h1, h0, h3, h2⟩ := l
  have : o + n ≤ (h.get b).cells.length := by
    have := congrArg List.length h1
    simp only [List.length_take, List.length_drop] at this; omega
  have h2 : (h.get b).st ≠ 2 := h2
  simp only [RV.get, h2, if_false, this, if_true, h1]
theorem rv_1 {b o : Nat} {v : AV} (l : LD h b o v) : (RV.c1 (.ptr b o)).get h = some v := by
  have h2 : (h.get b).st ≠ 2 := l.2
  simp only [RV.get, h2, if_false, l.1]
theorem w_gchk_tt {o : AOp} {v : AV} {p : Prog} (hk : (Prog.chk o v p).awp P h Q) : (Prog.gchk (.bool true) true o v p).awp P h Q := ⟨by simpa using hk.1, hk.2⟩
theorem w_gchk_ff {o : AOp} {v : AV} {p : Prog} (hk : (Prog.chk o v p).awp P h Q) : (Prog.gchk (.bool false) false o v p).awp P h Q := ⟨by simpa using hk.1, hk.2⟩
theorem w_gchk_tf {o : AOp} {v : AV} {p : Prog} (hk : p.awp P h Q) : (Prog.gchk (.bool true) false o v p).awp P h Q := ⟨by simp, hk⟩
theorem w_gchk_ft {o : AOp} {v : AV} {p : Prog} (hk : p.awp P h Q) : (Prog.gchk (.bool false) true o v p).awp P h Q := ⟨by simp, hk⟩
theorem w_gchk_un {w : Bool} {o : AOp} {v : AV} {p : Prog} (hk : p.awp P h Q) : (Prog.gchk (.tup []) w o v p).awp P h Q := ⟨trivial, hk⟩
theorem w_beql {a b : Bool} (h1 : a = b → (k (.bool true)).awp P h Q) (h2 : ¬ a = b → (k (.bool false)).awp P h Q) : (Prog.op (.bin 2 .eql (.bool a) (.bool b)) k).awp P h Q := by
  refine aw_beql ?_
  by_cases e : a = b
  · simpa [e] using h1 e
  · have : (a == b) = false := by simpa using e
    rw [this]; exact h2 e
theorem w_bneq {a b : Bool} (h1 : ¬ a = b → (k (.bool true)).awp P h Q) (h2 : a = b → (k (.bool false)).awp P h Q) : (Prog.op (.bin 2 .neq (.bool a) (.bool b)) k).awp P h Q := by
  refine aw_bneq ?_
  by_cases e : a = b
  · simpa [e] using h2 e
  · have : (a == b) = false := by simpa using e
    rw [this]; exact h1 e
theorem w_gop {b w : Bool} {o : AOp} (h1 : b = w → (Prog.op o k).awp P h Q) (h2 : b = !w → (k (.tup [])).awp P h Q) : (Prog.gop (.bool b) w o k).awp P h Q := by
  simp only [Prog.awp]
  split
  · rename_i e; exact h1 e
  · rename_i e; exact h2 (by cases b <;> cases w <;> simp_all)
end

/-! ### Blocks, through what was done since -/
/-- A block of the run's own, whole. -/
def Bk (h : AH) (b : Nat) (cs : List AV) (es : Nat) : Prop := b < h.n ∧ h.get b = ⟨cs, es, 0⟩
section
variable {g h : AH} {b c o n es : Nat} {cs cs' xs : List AV} {k : Blk} {X : List Nat}
theorem bk_push : Bk (h.push ⟨cs, es, 0⟩) h.n cs es := ⟨by simp, by simp⟩
theorem bk_pushE (e : b = h.n) : Bk (h.push ⟨cs, es, 0⟩) b cs es := by subst e; exact bk_push
theorem at_pushE (e : b = h.n) : At (h.push ⟨cs, es, 0⟩) b 0 cs := by subst e; exact at_push
theorem bk_updE (e : b = c) (hb : b < h.n) : Bk (h.upd c ⟨cs, es, 0⟩) b cs es := by subst e; exact ⟨by simpa using hb, by simp⟩
theorem bk_push1 (a : Bk h b cs es) : Bk (h.push k) b cs es := by
  obtain ⟨h1, h2⟩ := a
  have e : b ≠ h.n := by omega
  exact ⟨by simp; omega, by simp [e, h2]⟩
theorem bk_upd (hb : b < h.n) : Bk (h.upd b ⟨cs, es, 0⟩) b cs es := ⟨by simpa using hb, by simp⟩
theorem bk_upd1 (a : Bk h b cs es) (hne : b ≠ c) : Bk (h.upd c k) b cs es := ⟨by simpa using a.1, by simp [hne, a.2]⟩
theorem bk_ext1 (e : Ext g h) (a : Bk g b cs es) : Bk h b cs es := ⟨Nat.lt_of_lt_of_le a.1 e.1, by rw [e.2 b a.1]; exact a.2⟩
theorem bk_kp1 (e : Kp g h X) (a : Bk g b cs es) (hX : b ∉ X) : Bk h b cs es := ⟨Nat.lt_of_lt_of_le a.1 e.1, by rw [e.2 b a.1 hX]; exact a.2⟩
theorem at_bk (a : Bk h b cs es) : At h b 0 cs := ⟨a.1, by simp [live, a.2], by simp [a.2]⟩
theorem at_upd1 (a : At h b o cs) (hne : b ≠ c) : At (h.upd c k) b o cs := ⟨by simpa using a.1, by have := a.2.1; simpa [live, hne] using this, by have := a.2.2; simpa [hne] using this⟩
theorem at_ext1 (e : Ext g h) (a : At g b o cs) : At h b o cs := a.ext e
theorem at_kp1 (e : Kp g h X) (a : At g b o cs) (hX : b ∉ X) : At h b o cs := by
  have := e.2 b a.1 hX
  exact ⟨Nat.lt_of_lt_of_le a.1 e.1, by have h2 := a.2.1; unfold live at h2 ⊢; rw [this]; exact h2, by rw [this]; exact a.2.2⟩
theorem at_updS (hb : b < h.n) : At (h.upd b ⟨cs, es, 0⟩) b 0 cs := at_bk (bk_upd hb)
theorem at_updE (e : b = c) (hb : b < h.n) : At (h.upd c ⟨cs, es, 0⟩) b 0 cs := at_bk (bk_updE e hb)
theorem wr_bk (a : Bk h b cs es) (s : SP cs o xs cs') : WR h b o xs (h.upd b ⟨cs', es, 0⟩) := by
  obtain ⟨ho, rfl⟩ := s
  refine ⟨by simp [mine, a.2], by simpa [a.2] using ho, a.1, by rw [a.2]⟩
end
section
variable {α : Type} [Cel α] {g h : AH} {v : AV} {xs : List α} {F X : List Nat} {b n n0 : Nat} {k : Blk}
theorem slr_push1 (r : SlRep h v xs F) : SlRep (h.push k) v xs F := r.ext ((Ext.refl h).push k)
theorem slr_upd1 (r : SlRep h v xs F) (hb : b ∉ F) : SlRep (h.upd b k) v xs F := r.keep fun c hc => ⟨by have : c ≠ b := fun e => hb (e ▸ hc); simp [this], by simpa using r.lt c hc⟩
theorem slr_ext1 (e : Ext g h) (r : SlRep g v xs F) : SlRep h v xs F := r.ext e
theorem slr_kp1 (e : Kp g h X) (r : SlRep g v xs F) (hX : ∀ c ∈ F, c ∉ X) : SlRep h v xs F := r.kp e hX
theorem SlRep.cell (r : SlRep h v xs F) : v.cells? = some [v] := by
  rcases r with ⟨rfl, _, _⟩ | ⟨b, off, F', cs, rfl, _⟩ <;> rfl
theorem nin_own (o : Own n0 g F) (hb : b < n0) : b ∉ F := fun hm => by have := (o.2 b hm).1; omega
theorem nin_lt (r : SlRep g v xs F) (hb : g.n ≤ b) : b ∉ F := fun hm => by have := r.lt b hm; omega
theorem dis_own (r : SlRep g v xs F) (o : Own n h X) (hn : g.n ≤ n) : ∀ c ∈ F, c ∉ X := fun c hc hx => by have := r.lt c hc; have := (o.2 c hx).1; omega
theorem dis_own2 (o : Own n g F) (r : SlRep h v xs X) (hn : h.n ≤ n) : ∀ c ∈ F, c ∉ X := fun c hc hx => by have := r.lt c hx; have := (o.2 c hc).1; omega
/-- A new slice. -/
def New (n : Nat) (h : AH) (v : AV) (xs : List α) (F : List Nat) : Prop := SlRep h v xs F ∧ Own n h F
theorem nw_push1 (r : New n h v xs F) : New n (h.push k) v xs F := ⟨slr_push1 r.1, r.2.ext ((Ext.refl h).push k) r.1.lt⟩
theorem nw_upd1 (r : New n h v xs F) (hb : b ∉ F) : New n (h.upd b k) v xs F := ⟨slr_upd1 r.1 hb, r.2.mono (Nat.le_refl _) fun c hc => by have : c ≠ b := fun e => hb (e ▸ hc); simp [this]⟩
theorem nw_ext1 (e : Ext g h) (r : New n g v xs F) : New n h v xs F := ⟨r.1.ext e, r.2.ext e r.1.lt⟩
theorem nw_kp1 (e : Kp g h X) (r : New n g v xs F) (hX : ∀ c ∈ F, c ∉ X) : New n h v xs F := ⟨r.1.kp e hX, r.2.mono (Nat.le_refl _) fun c hc => e.2 c (r.1.lt c hc) (hX c hc)⟩
theorem nw_mk (r : SlRep h v xs F) (o : Own n0 h F) (hn : n ≤ n0) : New n h v xs F := ⟨r, o.mono hn fun _ _ => rfl⟩
theorem nw_low (r : New n0 h v xs F) (hn : n ≤ n0) : New n h v xs F := ⟨r.1, r.2.mono hn fun _ _ => rfl⟩
theorem nw_nil : New n h .nils ([] : List α) [] := ⟨SlRep.nils, Own.nil⟩
end
/-- What one owns, and where it lies. -/
def OwnL (n : Nat) (h : AH) (F : List Nat) : Prop := Own n h F ∧ ∀ b ∈ F, b < h.n
section
variable {α : Type} [Cel α] {g h : AH} {v : AV} {xs : List α} {F X : List Nat} {b n n0 : Nat} {k : Blk}
theorem ol_mk (o : Own n0 h F) (r : SlRep h v xs F) (hn : n ≤ n0) : OwnL n h F := ⟨o.mono hn fun _ _ => rfl, r.lt⟩
end
section
variable {g h : AH} {F X : List Nat} {b n n0 : Nat} {k : Blk}
theorem ol_nil : OwnL n h [] := ⟨Own.nil, by simp⟩
theorem ol_push1 (r : OwnL n h F) : OwnL n (h.push k) F := ⟨r.1.ext ((Ext.refl h).push k) r.2, fun b hb => by have := r.2 b hb; simp; omega⟩
theorem ol_upd1 (r : OwnL n h F) (hb : b ∉ F) : OwnL n (h.upd b k) F := ⟨r.1.mono (Nat.le_refl _) fun c hc => by have : c ≠ b := fun e => hb (e ▸ hc); simp [this], fun b hb => by simpa using r.2 b hb⟩
theorem ol_ext1 (e : Ext g h) (r : OwnL n g F) : OwnL n h F := ⟨r.1.ext e r.2, fun b hb => Nat.lt_of_lt_of_le (r.2 b hb) e.1⟩
theorem ol_kp1 (e : Kp g h X) (r : OwnL n g F) (hX : ∀ c ∈ F, c ∉ X) : OwnL n h F := ⟨r.1.mono (Nat.le_refl _) fun c hc => e.2 c (r.2 c hc) (hX c hc), fun b hb => Nat.lt_of_lt_of_le (r.2 b hb) e.1⟩
theorem ol_app {G : List Nat} {m : Nat} (r : OwnL n h F) (r' : OwnL m h G) (hn : n ≤ m) (d : ∀ c ∈ F, c ∉ G) : OwnL n h (F ++ G) :=
  ⟨⟨List.nodup_append.2 ⟨r.1.1, r'.1.1, fun a ha b hb e => d a ha (e ▸ hb)⟩, fun b hb => by
    rcases List.mem_append.1 hb with hb | hb
    · exact r.1.2 b hb
    · exact ⟨Nat.le_trans hn (r'.1.2 b hb).1, (r'.1.2 b hb).2⟩⟩, fun b hb => by
    rcases List.mem_append.1 hb with hb | hb
    · exact r.2 b hb
    · exact r'.2 b hb⟩
end
theorem nin_auto {b : Nat} {F : List Nat} (h : b ∉ F := by (first | exact List.not_mem_nil | exact nin_own (by assumption) om_auto | exact nin_lt (by assumption) om_auto)) : b ∉ F := h
theorem dis_auto {F X : List Nat} (h : ∀ c ∈ F, c ∉ X := by (first | exact fun _ h => absurd h List.not_mem_nil | exact dis_own (by assumption) (by assumption) om_auto | exact dis_own2 (by assumption) (by assumption) om_auto | assumption)) : ∀ c ∈ F, c ∉ X := h
/-- A heap's place, found. -/
theorem bk_auto {h : AH} {b : Nat} {cs : List AV} {es : Nat} (a : Bk h b cs es := by (repeat (first | assumption | with_reducible exact bk_push | ((with_reducible apply bk_pushE); (simp only [push_n, upd_n]; done)) | with_reducible apply bk_push1 | ((with_reducible apply bk_upd); exact om_auto) | ((with_reducible apply bk_updE); (first | rfl | (simp only [push_n, upd_n]; done)); exact om_auto) | with_reducible apply bk_upd1 | ((with_reducible apply bk_ext1); assumption) | ((with_reducible apply bk_kp1); assumption) | exact nin_auto | exact om_auto))) : Bk h b cs es := a
theorem at_auto {h : AH} {b o : Nat} {cs : List AV} (a : At h b o cs := by (repeat (first | assumption | exact at_bk (by assumption) | with_reducible exact at_push | ((with_reducible apply at_pushE); (simp only [push_n, upd_n]; done)) | ((with_reducible apply at_updS); exact om_auto) | ((with_reducible apply at_updE); (first | rfl | (simp only [push_n, upd_n]; done)); exact om_auto) | with_reducible apply At.push | with_reducible apply at_upd1 | ((with_reducible apply at_ext1); assumption) | ((with_reducible apply at_kp1); assumption) | exact At.toExt (by assumption) ext_auto | exact nin_auto | exact om_auto))) : At h b o cs := a
theorem slr_auto {α : Type} [Cel α] {h : AH} {v : AV} {xs : List α} {F : List Nat} (r : SlRep h v xs F := by (repeat (first | assumption | exact SlRep.nils | with_reducible apply slr_push1 | with_reducible apply slr_upd1 | ((with_reducible apply slr_ext1); assumption) | ((with_reducible apply slr_kp1); assumption) | exact SlRep.ext (by assumption) ext_auto | exact nin_auto | exact dis_auto))) : SlRep h v xs F := r
theorem nw_auto {α : Type} [Cel α] {n : Nat} {h : AH} {v : AV} {xs : List α} {F : List Nat} (r : New n h v xs F := by (repeat (first | exact nw_mk (by assumption) (by assumption) om_auto | exact nw_low (by assumption) om_auto | exact nw_nil | with_reducible apply nw_push1 | with_reducible apply nw_upd1 | ((with_reducible apply nw_ext1); assumption) | ((with_reducible apply nw_kp1); assumption) | exact nin_auto | exact dis_auto))) : New n h v xs F := r
theorem ol_auto {n : Nat} {h : AH} {F : List Nat} (r : OwnL n h F := by (repeat (first | exact ol_nil | exact ol_mk (by assumption) (by assumption) om_auto | with_reducible apply ol_push1 | with_reducible apply ol_upd1 | ((with_reducible apply ol_ext1); assumption) | ((with_reducible apply ol_kp1); assumption) | exact nin_auto | exact dis_auto))) : Own n h F := r.1
theorem sp_auto {cs xs cs' : List AV} {o : Nat} (s : SP cs o xs cs' := by (repeat (first | apply sp_0 | apply sp_s | exact s0_n | apply s0_c))) : SP cs o xs cs' := s
theorem tk_auto {j n : Nat} {cs cs' : List AV} (s : TK j n cs cs' := by (repeat (first | apply tk_0 | apply tk_s | exact t0_0 | apply t0_s))) : TK j n cs cs' := s
theorem ld_auto {h : AH} {b o : Nat} {v : AV} (l : LD h b o v := by (first | ((with_reducible apply gl_c); exact ld_c at_auto (by rfl)) | ((with_reducible apply gl_b); exact ld_b at_auto (by rfl)) | exact ld_a at_auto (by rfl))) : LD h b o v := l
theorem ldn_auto {h : AH} {n b o : Nat} {cs : List AV} (l : LDN h n b o cs := by (first | ((with_reducible apply gn_c); exact ldp_c at_auto (by decide) tk_auto) | ((with_reducible apply gn_b); exact ldp_b at_auto (by decide) tk_auto) | exact ldw at_auto (by decide) (by rfl) | exact ldp at_auto (by decide) tk_auto)) : LDN h n b o cs := l
theorem wr_auto {h h' : AH} {b o : Nat} {xs : List AV} (w : WR h b o xs h' := by (repeat (first | exact wr_0 sp_auto | with_reducible apply wr_1 | exact wr_bk bk_auto sp_auto))) : WR h b o xs h' := w
theorem rv_auto {h : AH} {r : RV} {v : AV} (e : r.get h = some v := by (first | with_reducible exact rv_v | ((with_reducible apply rv_1); exact ld_auto) | ((with_reducible apply rv_n); exact ldn_auto))) : r.get h = some v := e

theorem af_nil {cs : List AV} : afill cs [] = some cs := rfl
theorem af_cons {cs cs' out xs : List AV} {off size : Nat} {x : AV} {rest : List (Nat × Nat × AV)} (hx : x.cells? = some xs) (hn : xs.length = size) (s : SP cs off xs cs') (h : afill cs' rest = some out) : afill cs ((off, size, x) :: rest) = some out := by
  obtain ⟨s1, rfl⟩ := s
  subst hn
  simp only [afill, hx]
  rw [if_pos ⟨trivial, s1⟩]; exact h
theorem af_auto {cs out : List AV} {ps : List (Nat × Nat × AV)} (h : afill cs ps = some out := by (repeat (first | with_reducible exact af_nil | with_reducible apply af_cons | exact sp_auto | rfl | exact SlRep.cell (by assumption)))) : afill cs ps = some out := h
theorem it {A B C : Prop} (f : B → A) (g : C → B) : C → A := fun c => f (g c)
section
variable {B : Prop} {P : Program} {h : AH} {Q : Nat → List AV → AH → Prop} {k : AV → Prog}
theorem gi_ld1 {a : AV} (y : B → (Prog.op (.ld1 a) k).awp P h Q) : B → (Prog.op (.ld1 a) k).awp P h Q := y
theorem gi_ldn {n : Nat} {a : AV} (y : B → (Prog.op (.ldn n a) k).awp P h Q) : B → (Prog.op (.ldn n a) k).awp P h Q := y
theorem gi_len {n : Nat} {a : AV} (y : B → (Prog.op (.len n a) k).awp P h Q) : B → (Prog.op (.len n a) k).awp P h Q := y
theorem gi_box {a : AV} (y : B → (Prog.op (.box a) k).awp P h Q) : B → (Prog.op (.box a) k).awp P h Q := y
theorem gi_st {n : Nat} {a : AV} {x : AV} (y : B → (Prog.op (.st n a x) k).awp P h Q) : B → (Prog.op (.st n a x) k).awp P h Q := y
theorem gi_ext {n : Nat} {a : AV} (y : B → (Prog.op (.ext a n) k).awp P h Q) : B → (Prog.op (.ext a n) k).awp P h Q := y
theorem gi_fld1 {n : Nat} {a : AV} (y : B → (Prog.op (.fld1 n a) k).awp P h Q) : B → (Prog.op (.fld1 n a) k).awp P h Q := y
theorem gi_bin {n : Nat} {a : AV} {x : AV} {o : BinOp} (y : B → (Prog.op (.bin n o a x) k).awp P h Q) : B → (Prog.op (.bin n o a x) k).awp P h Q := y
theorem gi_build {z : List AV} {ps : List (Nat × Nat × AV)} (y : B → (Prog.op (.build z ps) k).awp P h Q) : B → (Prog.op (.build z ps) k).awp P h Q := y
theorem gi_bslice {n : Nat} {j : Nat} {z : List AV} {ps : List (Nat × Nat × AV)} (y : B → (Prog.op (.bslice n j z ps) k).awp P h Q) : B → (Prog.op (.bslice n j z ps) k).awp P h Q := y
theorem gi_sidx {a x : AV} (y : B → (Prog.op (.sidx a x) k).awp P h Q) : B → (Prog.op (.sidx a x) k).awp P h Q := y
theorem gi_fin1 {r : RV} (y : B → (Prog.fin [r]).awp P h Q) : B → (Prog.fin [r]).awp P h Q := y
theorem gi_fin2 {r r2 : RV} (y : B → (Prog.fin [r, r2]).awp P h Q) : B → (Prog.fin [r, r2]).awp P h Q := y
theorem gi_fin3 {r r2 r3 : RV} (y : B → (Prog.fin [r, r2, r3]).awp P h Q) : B → (Prog.fin [r, r2, r3]).awp P h Q := y
theorem gi_chkn {n : Nat} {a v : AV} {p : Prog} (y : B → (Prog.chk (.ldn n a) v p).awp P h Q) : B → (Prog.chk (.ldn n a) v p).awp P h Q := y
theorem gi_chk1 {a v : AV} {p : Prog} (y : B → (Prog.chk (.ld1 a) v p).awp P h Q) : B → (Prog.chk (.ld1 a) v p).awp P h Q := y
theorem gi_add {n : Nat} {a x : AV} (y : B → (Prog.op (.bin n .add a x) k).awp P h Q) : B → (Prog.op (.bin n .add a x) k).awp P h Q := y
theorem gi_sub {n : Nat} {a x : AV} (y : B → (Prog.op (.bin n .sub a x) k).awp P h Q) : B → (Prog.op (.bin n .sub a x) k).awp P h Q := y
theorem gi_quo {n : Nat} {a x : AV} (y : B → (Prog.op (.bin n .quo a x) k).awp P h Q) : B → (Prog.op (.bin n .quo a x) k).awp P h Q := y
theorem w_quo {a b : Int} (ha : 0 ≤ a) (hb : 0 < b) (h2 : a ≤ 9223372036854775807) (hk : (k (.int .i64 (a / b))).awp P h Q) : (Prog.op (.bin 0 .quo (.int .i64 a) (.int .i64 b)) k).awp P h Q := by
  refine aw_quow (by omega) ?_
  have h0 : 0 ≤ a / b := Int.ediv_nonneg ha (by omega)
  have h3 : a / b ≤ a := Int.ediv_le_self _ ha
  rw [Int.tdiv_eq_ediv_of_nonneg ha, wrap_id (by omega) (by omega)]; exact hk
theorem gi_rem {n : Nat} {a x : AV} (y : B → (Prog.op (.bin n .rem a x) k).awp P h Q) : B → (Prog.op (.bin n .rem a x) k).awp P h Q := y
end
/-- One step and more. -/
theorem vs {A B : Prop} (hb : B) (s : B → A := by ((apply it; (first | (with_reducible first | exact aw_ite_t | exact aw_ite_f | exact aw_mv | exact aw_fad | exact aw_alloc | exact aw_mkfn | exact aw_leaf | exact aw_pick_t | exact aw_pick_f | exact aw_pick | exact aw_not_t | exact aw_not_f | exact aw_not | exact aw_gop_tt | exact aw_gop_ff | exact aw_gop_tf | exact aw_gop_ft | exact aw_gop_un | exact aw_len_str | exact aw_fin1 | exact aw_fin2 | exact aw_scope | exact aw_tsel_eq | exact aw_nexts | exact w_bneqS | exact w_ineqS | exact w_seqS | exact w_sgeq | exact w_max | exact w_min | exact w_conv8 | exact w_gchk_tt | exact w_gchk_ff | exact w_gchk_tf | exact w_gchk_ft | exact w_gchk_un) | ((with_reducible apply gi_ld1); first | exact w_ld1 ld_auto) | ((with_reducible apply gi_ldn); first | exact w_ldn ldn_auto) | ((with_reducible apply gi_len); first | exact w_len (by assumption)) | ((with_reducible apply gi_box); first | exact aw_box (by rfl)) | ((with_reducible apply gi_st); first | exact w_st (by first | rfl | exact SlRep.cell (by assumption)) (by rfl) wr_auto) | ((with_reducible apply gi_ext); first | exact aw_ext (by rfl)) | ((with_reducible apply gi_fld1); first | exact aw_fld1 (by rfl)) | ((with_reducible apply gi_add); first | exact aw_inc (by omega) | exact aw_addn (by omega) (by omega)) | ((with_reducible apply gi_sub); exact aw_subn (by omega) (by omega)) | ((with_reducible apply gi_rem); exact aw_rem (by decide)) | ((with_reducible apply gi_quo); exact w_quo (by omega) (by decide) (by omega)) | ((with_reducible apply gi_build); first | exact aw_build af_auto) | ((with_reducible apply gi_bslice); first | exact w_bs af_auto (by decide) (by rfl)) | ((with_reducible apply gi_chkn); exact w_chkn ldn_auto) | ((with_reducible apply gi_chk1); exact w_chk1 ld_auto) | ((with_reducible apply gi_sidx); exact sx1 (by assumption)) | ((with_reducible apply gi_fin1); exact aw_fin_1 rv_auto) | ((with_reducible apply gi_fin2); exact aw_fin_2 rv_auto rv_auto) | ((with_reducible apply gi_fin3); exact aw_fin_3 rv_auto rv_auto rv_auto) | (exact aw_tsel_ne (by decide)) | (exact aw_ends (by decide)))); (repeat (apply it; (first | (with_reducible first | exact aw_ite_t | exact aw_ite_f | exact aw_mv | exact aw_fad | exact aw_alloc | exact aw_mkfn | exact aw_leaf | exact aw_pick_t | exact aw_pick_f | exact aw_pick | exact aw_not_t | exact aw_not_f | exact aw_not | exact aw_gop_tt | exact aw_gop_ff | exact aw_gop_tf | exact aw_gop_ft | exact aw_gop_un | exact aw_len_str | exact aw_fin1 | exact aw_fin2 | exact aw_scope | exact aw_tsel_eq | exact aw_nexts | exact w_bneqS | exact w_ineqS | exact w_seqS | exact w_sgeq | exact w_max | exact w_min | exact w_conv8 | exact w_gchk_tt | exact w_gchk_ff | exact w_gchk_tf | exact w_gchk_ft | exact w_gchk_un) | ((with_reducible apply gi_ld1); first | exact w_ld1 ld_auto) | ((with_reducible apply gi_ldn); first | exact w_ldn ldn_auto) | ((with_reducible apply gi_len); first | exact w_len (by assumption)) | ((with_reducible apply gi_box); first | exact aw_box (by rfl)) | ((with_reducible apply gi_st); first | exact w_st (by first | rfl | exact SlRep.cell (by assumption)) (by rfl) wr_auto) | ((with_reducible apply gi_ext); first | exact aw_ext (by rfl)) | ((with_reducible apply gi_fld1); first | exact aw_fld1 (by rfl)) | ((with_reducible apply gi_add); first | exact aw_inc (by omega) | exact aw_addn (by omega) (by omega)) | ((with_reducible apply gi_sub); exact aw_subn (by omega) (by omega)) | ((with_reducible apply gi_rem); exact aw_rem (by decide)) | ((with_reducible apply gi_quo); exact w_quo (by omega) (by decide) (by omega)) | ((with_reducible apply gi_build); first | exact aw_build af_auto) | ((with_reducible apply gi_bslice); first | exact w_bs af_auto (by decide) (by rfl)) | ((with_reducible apply gi_chkn); exact w_chkn ldn_auto) | ((with_reducible apply gi_chk1); exact w_chk1 ld_auto) | ((with_reducible apply gi_sidx); exact sx1 (by assumption)) | ((with_reducible apply gi_fin1); exact aw_fin_1 rv_auto) | ((with_reducible apply gi_fin2); exact aw_fin_2 rv_auto rv_auto) | ((with_reducible apply gi_fin3); exact aw_fin_3 rv_auto rv_auto rv_auto) | (exact aw_tsel_ne (by decide)) | (exact aw_ends (by decide))))); exact fun x => x)) : A := s hb
/-- Two ways. -/
theorem br {A B C : Prop} (b : B) (c : C) (s : B → C → A := by (with_reducible first | exact aw_lss | exact aw_leq | exact aw_gtr | exact aw_geq | exact aw_eql | exact aw_neq | exact aw_seql | exact aw_sneq | exact w_beql | exact w_bneq | exact aw_ite | exact w_gop)) : A := s b c
/-- An element. -/
theorem ix {α : Type} [Cel α] {P : Program} {h h0 : AH} {Q : Nat → List AV → AH → Prop} {k : AV → Prog} {v : AV} {xs : List α} {F : List Nat} {es i : Nat} {q : IntKind} {x : α} (hk : ∀ b o cs Fi, At h0 b o cs → Cel.rep h0 x cs Fi → (∀ y ∈ Fi, y ∈ F) → (k (.ptr b o)).awp P h Q) (r : SlRep h0 v xs F := by assumption) (hx : xs[i]? = some x := by assumption) (hw : es = Cel.w α := by rfl) : (Prog.op (.idx es v (.int q i)) k).awp P h Q := aw_idx r hx hw hk
theorem ixi {α : Type} [Cel α] {P : Program} {h h0 : AH} {Q : Nat → List AV → AH → Prop} {k : AV → Prog} {v : AV} {xs : List α} {F : List Nat} {es : Nat} {i : Int} {q : IntKind} {x : α} (hk : ∀ b o cs Fi, At h0 b o cs → Cel.rep h0 x cs Fi → (∀ y ∈ Fi, y ∈ F) → (k (.ptr b o)).awp P h Q) (r : SlRep h0 v xs F := by assumption) (hi : 0 ≤ i := by omega) (hx : xs[i.toNat]? = some x := by assumption) (hw : es = Cel.w α := by rfl) : (Prog.op (.idx es v (.int q i)) k).awp P h Q := aw_idxi r hi hx hw hk
end Go.Ab
