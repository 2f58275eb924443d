import Derived.Test.YtekfdoknfcedpaaGreatCK3
import Derived.Test.YtekfdoknfcedpaaGreatCK2
section
/- The walk through a shallow program: each step, with what it asks filled in. -/
set_option linter.unusedSimpArgs false
set_option linter.unusedVariables false
namespace Go.Ab
open Go.RowKit

theorem om_auto {p : Prop} (h : p := by (first | omega | (simp only [push_n, upd_n]; omega) | (simp only [push_n, upd_n] at *; omega) | (simp <;> omega))) : p := h
theorem ext_kp1 {g h h0 : AH} {X : List Nat} (k : Kp g h X) (e : Ext h0 g) (hl : ∀ b ∈ X, h0.n ≤ b) : Ext h0 h := k.ext e hl
theorem low_own {h0 h : AH} {n : Nat} {X : List Nat} (o : Own n h X) (hn : h0.n ≤ n) : ∀ b ∈ X, h0.n ≤ b := fun b hb => Nat.le_trans hn (o.2 b hb).1
theorem ext_auto {a b : AH} (e : Ext a b := by (repeat (first | assumption | exact Ext.refl _ | refine Ext.push ?_ _ | refine Ext.upd ?_ om_auto _ | refine Ext.trans ?_ (by assumption) | ((with_reducible apply ext_kp1); assumption) | exact low_own (by assumption) om_auto))) : Ext a b := e
def LD (h : AH) (b o : Nat) (v : AV) : Prop := (h.get b).cells[o]? = some v ∧ live h b
def LDN (h : AH) (n b o : Nat) (cs : List AV) : Prop := ((h.get b).cells.drop o).take n = cs ∧ 0 < n ∧ cs.length = n ∧ live h b

section
variable {h h0 : AH}
theorem ld_b {b o j : Nat} {v : AV} {cs : List AV} (a : At h b o cs) (hv : cs[j]? = some v) : LD h b (o + j) v := ⟨a.get hv, a.2.1⟩
theorem ld_a {b o : Nat} {v : AV} {cs : List AV} (a : At h b o cs) (hv : cs[0]? = some v) : LD h b o v := ld_b a hv
theorem ld_c {b o i j : Nat} {v : AV} {cs : List AV} (a : At h b o cs) (hv : cs[i + j]? = some v) : LD h b (o + i + j) v := by rw [Nat.add_assoc]; exact ld_b a hv
theorem ldn_b {b o j n : Nat} {cs cs' : List AV} (a : At h b o cs) (n0 : 0 < n) (hc : (cs.drop j).take n = cs') (hn : cs'.length = n) : LDN h n b (o + j) cs' := by
  have a' := (a.drop j).take n
  rw [hc] at a'
  have := a'.2.2
  rw [hn] at this
  exact ⟨this, n0, hn, a'.2.1⟩
theorem ldn_a {b o n : Nat} {cs cs' : List AV} (a : At h b o cs) (n0 : 0 < n) (hc : cs.take n = cs') (hn : cs'.length = n) : LDN h n b o cs' := by simpa using ldn_b (j := 0) a n0 (by simpa using hc) hn
theorem ldn_c {b o i j n : Nat} {cs cs' : List AV} (a : At h b o cs) (n0 : 0 < n) (hc : (cs.drop (i + j)).take n = cs') (hn : cs'.length = n) : LDN h n b (o + i + j) cs' := by rw [Nat.add_assoc]; exact ldn_b a n0 hc hn

theorem gl_c {b o i j : Nat} {v : AV} (x : LD h b (o + i + j) v) : LD h b (o + i + j) v := x
theorem gl_b {b o j : Nat} {v : AV} (x : LD h b (o + j) v) : LD h b (o + j) v := x
theorem gn_c {b n o i j : Nat} {v : List AV} (x : LDN h n b (o + i + j) v) : LDN h n b (o + i + j) v := x
theorem gn_b {b n o j : Nat} {v : List AV} (x : LDN h n b (o + j) v) : LDN h n b (o + j) v := x
def WR (h : AH) (b o : Nat) (xs : List AV) (h' : AH) : Prop := mine h b ∧ o + xs.length ≤ (h.get b).cells.length ∧ b < h.n ∧ h' = h.upd b { h.get b with cells := splice (h.get b).cells o xs }
structure S0 (cs xs cs' : List AV) : Prop where
  a : xs.length ≤ cs.length
  b : xs ++ cs.drop xs.length = cs'
structure SP (cs : List AV) (o : Nat) (xs cs' : List AV) : Prop where
  a : o + xs.length ≤ cs.length
  b : splice cs o xs = cs'
theorem s0_n {cs : List AV} : S0 cs [] cs := ⟨by simp, by simp⟩
theorem s0_c {c x : AV} {cs xs cs' : List AV} (s : S0 cs xs cs') : S0 (c :: cs) (x :: xs) (x :: cs') := ⟨by have := s.1; simp; omega, by simp [s.2]⟩
theorem sp_0 {cs xs cs' : List AV} (s : S0 cs xs cs') : SP cs 0 xs cs' := ⟨by have := s.1; omega, by simp [splice, s.2]⟩
theorem sp_s {c : AV} {o : Nat} {cs xs cs' : List AV} (s : SP cs o xs cs') : SP (c :: cs) (o + 1) xs (c :: cs') := by
  obtain ⟨h1, rfl⟩ := s
  refine ⟨by simp; omega, ?_⟩
  unfold splice
  rw [show o + 1 + xs.length = o + xs.length + 1 by omega]; simp
structure T0 (n : Nat) (cs cs' : List AV) : Prop where
  a : cs.take n = cs'
  b : cs'.length = n
structure TK (j n : Nat) (cs cs' : List AV) : Prop where
  a : (cs.drop j).take n = cs'
  b : cs'.length = n
theorem t0_0 {cs : List AV} : T0 0 cs [] := ⟨by simp, rfl⟩
theorem t0_s {c : AV} {n : Nat} {cs cs' : List AV} (s : T0 n cs cs') : T0 (n + 1) (c :: cs) (c :: cs') := ⟨by simp [s.1], by simp [s.2]⟩
theorem tk_0 {n : Nat} {cs cs' : List AV} (s : T0 n cs cs') : TK 0 n cs cs' := ⟨by simpa using s.1, s.2⟩
theorem tk_s {c : AV} {j n : Nat} {cs cs' : List AV} (s : TK j n cs cs') : TK (j + 1) n (c :: cs) cs' := ⟨by simpa using s.1, s.2⟩
theorem wr_0 {o : Nat} {cs cs' xs : List AV} {es : Nat} (s : SP cs o xs cs') : WR (h.push ⟨cs, es, 0⟩) h.n o xs (h.push ⟨cs', es, 0⟩) := by
  obtain ⟨ho, rfl⟩ := s
  refine ⟨by simp [mine], by simpa using ho, by simp, ?_⟩
  simp only [push_get, if_true, upd_push_self]
theorem ldw {b o n : Nat} {cs : List AV} (a : At h b o cs) (n0 : 0 < n) (hn : cs.length = n) : LDN h n b o cs := by
  subst hn
  exact ⟨a.2.2, n0, rfl, a.2.1⟩
theorem ldp {b o n : Nat} {cs cs' : List AV} (a : At h b o cs) (n0 : 0 < n) (t : TK 0 n cs cs') : LDN h n b o cs' := ldn_a a n0 (by simpa using t.1) t.2
theorem ldp_b {b o j n : Nat} {cs cs' : List AV} (a : At h b o cs) (n0 : 0 < n) (t : TK j n cs cs') : LDN h n b (o + j) cs' := ldn_b a n0 t.1 t.2
theorem ldp_c {b o i j n : Nat} {cs cs' : List AV} (a : At h b o cs) (n0 : 0 < n) (t : TK (i + j) n cs cs') : LDN h n b (o + i + j) cs' := ldn_c a n0 t.1 t.2
theorem wr_1 {b o : Nat} {xs : List AV} {h' : AH} {k : Blk} (w : WR h b o xs h') : WR (h.push k) b o xs (h'.push k) := by
  obtain ⟨w1, w2, w3, rfl⟩ := w
  have e : b ≠ h.n := by omega
  refine ⟨by simpa [mine, e] using w1, by simpa [e] using w2, by simp; omega, ?_⟩
  rw [upd_push_lt w3]; simp [e]
end

section
variable {α : Type} [Cel α] {P : Program} {h h0 h' : AH} {Q : Nat → List AV → AH → Prop} {k : AV → Prog}
theorem w_ld1 {b o : Nat} {v : AV} (l : LD h b o v) (hk : (k v).awp P h Q) : (Prog.op (.ld1 (.ptr b o)) k).awp P h Q := aw_ld1 l.1 l.2 hk
theorem w_ldn {n b o : Nat} {cs : List AV} (l : LDN h n b o cs) (hk : (k (.agg cs)).awp P h Q) : (Prog.op (.ldn n (.ptr b o)) k).awp P h Q := aw_ldn l.1 l.2.1 l.2.2.1 l.2.2.2 hk
theorem w_st {n b o : Nat} {x : AV} {xs : List AV} (hx : x.cells? = some xs) (hn : xs.length = n) (w : WR h b o xs h') (hk : (k (.tup [])).awp P h' Q) : (Prog.op (.st n (.ptr b o) x) k).awp P h Q := by
  obtain ⟨w1, w2, w3, rfl⟩ := w
  exact aw_st w1 hx hn (by omega) hk
theorem w_chkn {n b o : Nat} {cs : List AV} {p : Prog} (l : LDN h n b o cs) (hk : p.awp P h Q) : (Prog.chk (.ldn n (.ptr b o)) (.agg cs) p).awp P h Q := by
  refine ⟨?_, hk⟩
  have := w_ldn (P := P) (k := fun v => .leaf 0 [v]) (Q := fun t vs h' => vs = [.agg cs] ∧ h' = h) l ⟨rfl, rfl⟩
  simp only [Prog.awp, AOp.go, List.cons.injEq, and_true] at this
  simp only [AOp.still, AOp.go, and_true]
  exact this
theorem w_chk1 {b o : Nat} {v : AV} {p : Prog} (l : LD h b o v) (hk : p.awp P h Q) : (Prog.chk (.ld1 (.ptr b o)) v p).awp P h Q := by
  refine ⟨?_, hk⟩
  have := w_ld1 (P := P) (k := fun v => .leaf 0 [v]) (Q := fun t vs h' => vs = [v] ∧ h' = h) l ⟨rfl, rfl⟩
  simp only [Prog.awp, AOp.go, List.cons.injEq, and_true] at this
  simp only [AOp.still, AOp.go, and_true]
  exact this
theorem w_len {v : AV} {xs : List α} {F : List Nat} (r : SlRep h0 v xs F) (hk : (k (.int .i64 xs.length)).awp P h Q) : (Prog.op (.len 0 v) k).awp P h Q := aw_len r hk
theorem w_bs {es n : Nat} {zero cs : List AV} {parts : List (Nat × Nat × AV)} (hc : afill zero parts = some cs) (h1 : n * es ≤ 16777216) (h2 : cs.length = n * es) (hk : (k (.sl h.n 0 n)).awp P (h.push ⟨cs, es, 0⟩) Q) : (Prog.op (.bslice es n zero parts) k).awp P h Q := aw_bslice hc h1 h2 hk
theorem rv_v {v : AV} : (RV.val v).get h = some v := rfl
theorem rv_n {b o n : Nat} {cs : List AV} (l : LDN h n b o cs) : (RV.cn n (.ptr b o)).get h = some (.agg cs) := by
  obtain ⟨h1, h0, h3, h2⟩ := l
  have : o + n ≤ (h.get b).cells.length := by
    have := congrArg List.length h1
    simp only [List.length_take, List.length_drop] at this; omega
  have h2 : (h.get b).st ≠ 2 := h2
  simp only [RV.get, h2, if_false, this, if_true, h1]
theorem rv_1 {b o : Nat} {v : AV} (l : LD h b o v) : (RV.c1 (.ptr b o)).get h = some v := by
  have h2 : (h.get b).st ≠ 2 := l.2
  simp only [RV.get, h2, if_false, l.1]
theorem w_gchk_tt {o : AOp} {v : AV} {p : Prog} (hk : (Prog.chk o v p).awp P h Q) : (Prog.gchk (.bool true) true o v p).awp P h Q := ⟨by simpa using hk.1, hk.2⟩
theorem w_gchk_ff {o : AOp} {v : AV} {p : Prog} (hk : (Prog.chk o v p).awp P h Q) : (Prog.gchk (.bool false) false o v p).awp P h Q := ⟨by simpa using hk.1, hk.2⟩
theorem w_gchk_tf {o : AOp} {v : AV} {p : Prog} (hk : p.awp P h Q) : (Prog.gchk (.bool true) false o v p).awp P h Q := ⟨by simp, hk⟩
theorem w_gchk_ft {o : AOp} {v : AV} {p : Prog} (hk : p.awp P h Q) : (Prog.gchk (.bool false) true o v p).awp P h Q := ⟨by simp, hk⟩
theorem w_gchk_un {w : Bool} {o : AOp} {v : AV} {p : Prog} (hk : p.awp P h Q) : (Prog.gchk (.tup []) w o v p).awp P h Q := ⟨trivial, hk⟩
theorem w_beql {a b : Bool} (h1 : a = b → (k (.bool true)).awp P h Q) (h2 : ¬ a = b → (k (.bool false)).awp P h Q) : (Prog.op (.bin 2 .eql (.bool a) (.bool b)) k).awp P h Q := by
  refine aw_beql ?_
  by_cases e : a = b
  · simpa [e] using h1 e
  · have : (a == b) = false := by simpa using e
    rw [this]; exact h2 e
theorem w_bneq {a b : Bool} (h1 : ¬ a = b → (k (.bool true)).awp P h Q) (h2 : a = b → (k (.bool false)).awp P h Q) : (Prog.op (.bin 2 .neq (.bool a) (.bool b)) k).awp P h Q := by
  refine aw_bneq ?_
  by_cases e : a = b
  · simpa [e] using h2 e
  · have : (a == b) = false := by simpa using e
    rw [this]; exact h1 e
theorem w_gop {b w : Bool} {o : AOp} (h1 : b = w → (Prog.op o k).awp P h Q) (h2 : b = !w → (k (.tup [])).awp P h Q) : (Prog.gop (.bool b) w o k).awp P h Q := by
  simp only [Prog.awp]
  split
  · rename_i e; exact h1 e
  · rename_i e; exact h2 (by cases b <;> cases w <;> simp_all)
end

/-! ### Blocks, through what was done since -/
def Bk (h : AH) (b : Nat) (cs : List AV) (es : Nat) : Prop := b < h.n ∧ h.get b = ⟨cs, es, 0⟩
section
variable {g h : AH} {b c o n es : Nat} {cs cs' xs : List AV} {k : Blk} {X : List Nat}
theorem bk_push : Bk (h.push ⟨cs, es, 0⟩) h.n cs es := ⟨by simp, by simp⟩
theorem bk_pushE (e : b = h.n) : Bk (h.push ⟨cs, es, 0⟩) b cs es := by subst e; exact bk_push
theorem at_pushE (e : b = h.n) : At (h.push ⟨cs, es, 0⟩) b 0 cs := by subst e; exact at_push
theorem bk_updE (e : b = c) (hb : b < h.n) : Bk (h.upd c ⟨cs, es, 0⟩) b cs es := by subst e; exact ⟨by simpa using hb, by simp⟩
theorem bk_push1 (a : Bk h b cs es) : Bk (h.push k) b cs es := by
  obtain ⟨h1, h2⟩ := a
  have e : b ≠ h.n := by omega
  exact ⟨by simp; omega, by simp [e, h2]⟩
theorem bk_upd (hb : b < h.n) : Bk (h.upd b ⟨cs, es, 0⟩) b cs es := ⟨by simpa using hb, by simp⟩
theorem bk_upd1 (a : Bk h b cs es) (hne : b ≠ c) : Bk (h.upd c k) b cs es := ⟨by simpa using a.1, by simp [hne, a.2]⟩
theorem bk_ext1 (e : Ext g h) (a : Bk g b cs es) : Bk h b cs es := ⟨Nat.lt_of_lt_of_le a.1 e.1, by rw [e.2 b a.1]; exact a.2⟩
theorem bk_kp1 (e : Kp g h X) (a : Bk g b cs es) (hX : b ∉ X) : Bk h b cs es := ⟨Nat.lt_of_lt_of_le a.1 e.1, by rw [e.2 b a.1 hX]; exact a.2⟩
theorem at_bk (a : Bk h b cs es) : At h b 0 cs := ⟨a.1, by simp [live, a.2], by simp [a.2]⟩
theorem at_upd1 (a : At h b o cs) (hne : b ≠ c) : At (h.upd c k) b o cs := ⟨by simpa using a.1, by have := a.2.1; simpa [live, hne] using this, by have := a.2.2; simpa [hne] using this⟩
theorem at_ext1 (e : Ext g h) (a : At g b o cs) : At h b o cs := a.ext e
theorem at_kp1 (e : Kp g h X) (a : At g b o cs) (hX : b ∉ X) : At h b o cs := by
  have := e.2 b a.1 hX
  exact ⟨Nat.lt_of_lt_of_le a.1 e.1, by have h2 := a.2.1; unfold live at h2 ⊢; rw [this]; exact h2, by rw [this]; exact a.2.2⟩
theorem at_updS (hb : b < h.n) : At (h.upd b ⟨cs, es, 0⟩) b 0 cs := at_bk (bk_upd hb)
theorem at_updE (e : b = c) (hb : b < h.n) : At (h.upd c ⟨cs, es, 0⟩) b 0 cs := at_bk (bk_updE e hb)
theorem wr_bk (a : Bk h b cs es) (s : SP cs o xs cs') : WR h b o xs (h.upd b ⟨cs', es, 0⟩) := by
  obtain ⟨ho, rfl⟩ := s
  refine ⟨by simp [mine, a.2], by simpa [a.2] using ho, a.1, by rw [a.2]⟩
end
section
variable {α : Type} [Cel α] {g h : AH} {v : AV} {xs : List α} {F X : List Nat} {b n n0 : Nat} {k : Blk}
theorem slr_push1 (r : SlRep h v xs F) : SlRep (h.push k) v xs F := r.ext ((Ext.refl h).push k)
theorem slr_upd1 (r : SlRep h v xs F) (hb : b ∉ F) : SlRep (h.upd b k) v xs F := r.keep fun c hc => ⟨by have : c ≠ b := fun e => hb (e ▸ hc); simp [this], by simpa using r.lt c hc⟩
theorem slr_ext1 (e : Ext g h) (r : SlRep g v xs F) : SlRep h v xs F := r.ext e
theorem slr_kp1 (e : Kp g h X) (r : SlRep g v xs F) (hX : ∀ c ∈ F, c ∉ X) : SlRep h v xs F := r.kp e hX
theorem SlRep.cell (r : SlRep h v xs F) : v.cells? = some [v] := by
  rcases r with ⟨rfl, _, _⟩ | ⟨b, off, F', cs, rfl, _⟩ <;> rfl
theorem nin_own (o : Own n0 g F) (hb : b < n0) : b ∉ F := fun hm => by have := (o.2 b hm).1; omega
theorem nin_lt (r : SlRep g v xs F) (hb : g.n ≤ b) : b ∉ F := fun hm => by have := r.lt b hm; omega
theorem dis_own (r : SlRep g v xs F) (o : Own n h X) (hn : g.n ≤ n) : ∀ c ∈ F, c ∉ X := fun c hc hx => by have := r.lt c hc; have := (o.2 c hx).1; omega
theorem dis_own2 (o : Own n g F) (r : SlRep h v xs X) (hn : h.n ≤ n) : ∀ c ∈ F, c ∉ X := fun c hc hx => by have := r.lt c hx; have := (o.2 c hc).1; omega
def New (n : Nat) (h : AH) (v : AV) (xs : List α) (F : List Nat) : Prop := SlRep h v xs F ∧ Own n h F
end
def OwnL (n : Nat) (h : AH) (F : List Nat) : Prop := Own n h F ∧ ∀ b ∈ F, b < h.n
section
variable {α : Type} [Cel α] {g h : AH} {v : AV} {xs : List α} {F X : List Nat} {b n n0 : Nat} {k : Blk}
theorem ol_mk (o : Own n0 h F) (r : SlRep h v xs F) (hn : n ≤ n0) : OwnL n h F := ⟨o.mono hn fun _ _ => rfl, r.lt⟩
end
section
variable {g h : AH} {F X : List Nat} {b n n0 : Nat} {k : Blk}
theorem ol_nil : OwnL n h [] := ⟨Own.nil, by simp⟩
theorem ol_push1 (r : OwnL n h F) : OwnL n (h.push k) F := ⟨r.1.ext ((Ext.refl h).push k) r.2, fun b hb => by have := r.2 b hb; simp; omega⟩
theorem ol_upd1 (r : OwnL n h F) (hb : b ∉ F) : OwnL n (h.upd b k) F := ⟨r.1.mono (Nat.le_refl _) fun c hc => by have : c ≠ b := fun e => hb (e ▸ hc); simp [this], fun b hb => by simpa using r.2 b hb⟩
theorem ol_ext1 (e : Ext g h) (r : OwnL n g F) : OwnL n h F := ⟨r.1.ext e r.2, fun b hb => Nat.lt_of_lt_of_le (r.2 b hb) e.1⟩
theorem ol_kp1 (e : Kp g h X) (r : OwnL n g F) (hX : ∀ c ∈ F, c ∉ X) : OwnL n h F := ⟨r.1.mono (Nat.le_refl _) fun c hc => e.2 c (r.2 c hc) (hX c hc), fun b hb => Nat.lt_of_lt_of_le (r.2 b hb) e.1⟩
theorem ol_app {G : List Nat} {m : Nat} (r : OwnL n h F) (r' : OwnL m h G) (hn : n ≤ m) (d : ∀ c ∈ F, c ∉ G) : OwnL n h (F ++ G) :=
  ⟨⟨List.nodup_append.2 ⟨r.1.1, r'.1.1, fun a ha b hb e => d a ha (e ▸ hb)⟩, fun b hb => by
    rcases List.mem_append.1 hb with hb | hb
    · exact r.1.2 b hb
    · exact ⟨Nat.le_trans hn (r'.1.2 b hb).1, (r'.1.2 b hb).2⟩⟩, fun b hb => by
    rcases List.mem_append.1 hb with hb | hb
    · exact r.2 b hb
    · exact r'.2 b hb⟩
end
theorem nin_one {b c : Nat} (h : ¬ b = c) : b ∉ [c] := fun hm => h (List.mem_singleton.1 hm)
theorem nin_auto {b : Nat} {F : List Nat} (h : b ∉ F := by (first | exact List.not_mem_nil | assumption | exact nin_own (by assumption) om_auto | exact nin_lt (by assumption) om_auto | ((with_reducible apply nin_one); (try simp only [push_n, upd_n]); omega))) : b ∉ F := h
theorem dis_one {b : Nat} {F : List Nat} (h : b ∉ F) : ∀ c ∈ F, c ∉ [b] := fun c hc hx => h (List.mem_singleton.1 hx ▸ hc)
theorem dis_auto {F X : List Nat} (h : ∀ c ∈ F, c ∉ X := by (first | exact fun _ h => absurd h List.not_mem_nil | exact dis_own (by assumption) (by assumption) om_auto | exact dis_own2 (by assumption) (by assumption) om_auto | assumption | exact dis_one nin_auto)) : ∀ c ∈ F, c ∉ X := h
theorem bk_auto {h : AH} {b : Nat} {cs : List AV} {es : Nat} (a : Bk h b cs es := by (repeat (first | assumption | with_reducible exact bk_push | ((with_reducible apply bk_pushE); (simp only [push_n, upd_n] <;> fail)) | with_reducible apply bk_push1 | ((with_reducible apply bk_upd); exact om_auto) | ((with_reducible apply bk_updE); (first | rfl | (simp only [push_n, upd_n] <;> fail)); exact om_auto) | with_reducible apply bk_upd1 | ((with_reducible apply bk_ext1); assumption) | ((with_reducible apply bk_kp1); assumption) | exact nin_auto | exact om_auto))) : Bk h b cs es := a
theorem at_auto {h : AH} {b o : Nat} {cs : List AV} (a : At h b o cs := by (repeat (first | assumption | exact at_bk (by assumption) | with_reducible exact at_push | ((with_reducible apply at_pushE); (simp only [push_n, upd_n] <;> fail)) | ((with_reducible apply at_updS); exact om_auto) | ((with_reducible apply at_updE); (first | rfl | (simp only [push_n, upd_n] <;> fail)); exact om_auto) | with_reducible apply At.push | with_reducible apply at_upd1 | ((with_reducible apply at_ext1); assumption) | ((with_reducible apply at_kp1); assumption) | exact At.toExt (by assumption) ext_auto | exact nin_auto | exact om_auto))) : At h b o cs := a
theorem slr_auto {α : Type} [Cel α] {h : AH} {v : AV} {xs : List α} {F : List Nat} (r : SlRep h v xs F := by (repeat (first | assumption | exact SlRep.nils | with_reducible apply slr_push1 | with_reducible apply slr_upd1 | ((with_reducible apply slr_ext1); assumption) | ((with_reducible apply slr_kp1); assumption) | exact SlRep.ext (by assumption) ext_auto | exact nin_auto | exact dis_auto))) : SlRep h v xs F := r
theorem ol_auto {n : Nat} {h : AH} {F : List Nat} (r : OwnL n h F := by (repeat (first | exact ol_nil | exact ol_mk (by assumption) (by assumption) om_auto | with_reducible apply ol_push1 | with_reducible apply ol_upd1 | ((with_reducible apply ol_ext1); assumption) | ((with_reducible apply ol_kp1); assumption) | exact nin_auto | exact dis_auto))) : Own n h F := r.1
theorem sp_auto {cs xs cs' : List AV} {o : Nat} (s : SP cs o xs cs' := by (repeat (first | apply sp_0 | apply sp_s | exact s0_n | apply s0_c))) : SP cs o xs cs' := s
theorem tk_auto {j n : Nat} {cs cs' : List AV} (s : TK j n cs cs' := by (repeat (first | apply tk_0 | apply tk_s | exact t0_0 | apply t0_s))) : TK j n cs cs' := s
theorem ld_auto {h : AH} {b o : Nat} {v : AV} (l : LD h b o v := by (first | ((with_reducible apply gl_c); exact ld_c at_auto (by rfl)) | ((with_reducible apply gl_b); exact ld_b at_auto (by rfl)) | exact ld_a at_auto (by rfl))) : LD h b o v := l
theorem ldn_auto {h : AH} {n b o : Nat} {cs : List AV} (l : LDN h n b o cs := by (first | ((with_reducible apply gn_c); exact ldp_c at_auto (by decide) tk_auto) | ((with_reducible apply gn_b); exact ldp_b at_auto (by decide) tk_auto) | exact ldw at_auto (by decide) (by rfl) | exact ldp at_auto (by decide) tk_auto)) : LDN h n b o cs := l
theorem wr_auto {h h' : AH} {b o : Nat} {xs : List AV} (w : WR h b o xs h' := by (repeat (first | exact wr_0 sp_auto | with_reducible apply wr_1 | exact wr_bk bk_auto sp_auto))) : WR h b o xs h' := w
theorem rv_auto {h : AH} {r : RV} {v : AV} (e : r.get h = some v := by (first | with_reducible exact rv_v | ((with_reducible apply rv_1); exact ld_auto) | ((with_reducible apply rv_n); exact ldn_auto))) : r.get h = some v := e

theorem af_nil {cs : List AV} : afill cs [] = some cs := rfl
theorem af_cons {cs cs' out xs : List AV} {off size : Nat} {x : AV} {rest : List (Nat × Nat × AV)} (hx : x.cells? = some xs) (hn : xs.length = size) (s : SP cs off xs cs') (h : afill cs' rest = some out) : afill cs ((off, size, x) :: rest) = some out := by
  obtain ⟨s1, rfl⟩ := s
  subst hn
  simp only [afill, hx]
  rw [if_pos ⟨trivial, s1⟩]; exact h
theorem af_auto {cs out : List AV} {ps : List (Nat × Nat × AV)} (h : afill cs ps = some out := by (repeat (first | with_reducible exact af_nil | with_reducible apply af_cons | exact sp_auto | rfl | exact SlRep.cell (by assumption)))) : afill cs ps = some out := h
theorem it {A B C : Prop} (f : B → A) (g : C → B) : C → A := fun c => f (g c)
section
variable {B : Prop} {P : Program} {h : AH} {Q : Nat → List AV → AH → Prop} {k : AV → Prog}
theorem gi_ld1 {a : AV} (y : B → (Prog.op (.ld1 a) k).awp P h Q) : B → (Prog.op (.ld1 a) k).awp P h Q := y
theorem gi_ldn {n : Nat} {a : AV} (y : B → (Prog.op (.ldn n a) k).awp P h Q) : B → (Prog.op (.ldn n a) k).awp P h Q := y
theorem gi_len {n : Nat} {a : AV} (y : B → (Prog.op (.len n a) k).awp P h Q) : B → (Prog.op (.len n a) k).awp P h Q := y
theorem gi_box {a : AV} (y : B → (Prog.op (.box a) k).awp P h Q) : B → (Prog.op (.box a) k).awp P h Q := y
theorem gi_st {n : Nat} {a : AV} {x : AV} (y : B → (Prog.op (.st n a x) k).awp P h Q) : B → (Prog.op (.st n a x) k).awp P h Q := y
theorem gi_ext {n : Nat} {a : AV} (y : B → (Prog.op (.ext a n) k).awp P h Q) : B → (Prog.op (.ext a n) k).awp P h Q := y
theorem gi_fld1 {n : Nat} {a : AV} (y : B → (Prog.op (.fld1 n a) k).awp P h Q) : B → (Prog.op (.fld1 n a) k).awp P h Q := y
theorem gi_build {z : List AV} {ps : List (Nat × Nat × AV)} (y : B → (Prog.op (.build z ps) k).awp P h Q) : B → (Prog.op (.build z ps) k).awp P h Q := y
theorem gi_bslice {n : Nat} {j : Nat} {z : List AV} {ps : List (Nat × Nat × AV)} (y : B → (Prog.op (.bslice n j z ps) k).awp P h Q) : B → (Prog.op (.bslice n j z ps) k).awp P h Q := y
theorem gi_sidx {a x : AV} (y : B → (Prog.op (.sidx a x) k).awp P h Q) : B → (Prog.op (.sidx a x) k).awp P h Q := y
theorem gi_fin1 {r : RV} (y : B → (Prog.fin [r]).awp P h Q) : B → (Prog.fin [r]).awp P h Q := y
theorem gi_fin2 {r r2 : RV} (y : B → (Prog.fin [r, r2]).awp P h Q) : B → (Prog.fin [r, r2]).awp P h Q := y
theorem gi_fin3 {r r2 r3 : RV} (y : B → (Prog.fin [r, r2, r3]).awp P h Q) : B → (Prog.fin [r, r2, r3]).awp P h Q := y
theorem gi_chkn {n : Nat} {a v : AV} {p : Prog} (y : B → (Prog.chk (.ldn n a) v p).awp P h Q) : B → (Prog.chk (.ldn n a) v p).awp P h Q := y
theorem gi_chk1 {a v : AV} {p : Prog} (y : B → (Prog.chk (.ld1 a) v p).awp P h Q) : B → (Prog.chk (.ld1 a) v p).awp P h Q := y
theorem gi_add {n : Nat} {a x : AV} (y : B → (Prog.op (.bin n .add a x) k).awp P h Q) : B → (Prog.op (.bin n .add a x) k).awp P h Q := y
theorem gi_sub {n : Nat} {a x : AV} (y : B → (Prog.op (.bin n .sub a x) k).awp P h Q) : B → (Prog.op (.bin n .sub a x) k).awp P h Q := y
theorem gi_quo {n : Nat} {a x : AV} (y : B → (Prog.op (.bin n .quo a x) k).awp P h Q) : B → (Prog.op (.bin n .quo a x) k).awp P h Q := y
theorem w_quo {a b : Int} (ha : 0 ≤ a) (hb : 0 < b) (h2 : a ≤ 9223372036854775807) (hk : (k (.int .i64 (a / b))).awp P h Q) : (Prog.op (.bin 0 .quo (.int .i64 a) (.int .i64 b)) k).awp P h Q := by
  refine aw_quow (by omega) ?_
  have h0 : 0 ≤ a / b := Int.ediv_nonneg ha (by omega)
  have h3 : a / b ≤ a := Int.ediv_le_self _ ha
  rw [Int.tdiv_eq_ediv_of_nonneg ha, wrap_id (by omega) (by omega)]; exact hk
theorem gi_rem {n : Nat} {a x : AV} (y : B → (Prog.op (.bin n .rem a x) k).awp P h Q) : B → (Prog.op (.bin n .rem a x) k).awp P h Q := y
end
theorem vs {A B : Prop} (hb : B) (s : B → A := by ((apply it; (first | (with_reducible first | exact aw_ite_t | exact aw_ite_f | exact aw_mv | exact aw_fad | exact aw_alloc | exact aw_mkfn | exact aw_leaf | exact aw_pick_t | exact aw_pick_f | exact aw_pick | exact aw_not_t | exact aw_not_f | exact aw_not | exact aw_gop_tt | exact aw_gop_ff | exact aw_gop_tf | exact aw_gop_ft | exact aw_gop_un | exact aw_len_str | exact aw_fin1 | exact aw_fin2 | exact aw_scope | exact aw_tsel_eq | exact aw_nexts | exact w_bneqS | exact w_ineqS | exact w_seqS | exact w_sgeq | exact w_max | exact w_min | exact w_conv8 | exact w_gchk_tt | exact w_gchk_ff | exact w_gchk_tf | exact w_gchk_ft | exact w_gchk_un) | ((with_reducible apply gi_ld1); first | exact w_ld1 ld_auto) | ((with_reducible apply gi_ldn); first | exact w_ldn ldn_auto) | ((with_reducible apply gi_len); first | exact w_len (by assumption)) | ((with_reducible apply gi_box); first | exact aw_box (by rfl)) | ((with_reducible apply gi_st); first | exact w_st (by first | rfl | exact SlRep.cell (by assumption)) (by rfl) wr_auto) | ((with_reducible apply gi_ext); first | exact aw_ext (by rfl)) | ((with_reducible apply gi_fld1); first | exact aw_fld1 (by rfl)) | ((with_reducible apply gi_add); first | exact aw_inc (by omega) | exact aw_addn (by omega) (by omega)) | ((with_reducible apply gi_sub); exact aw_subn (by omega) (by omega)) | ((with_reducible apply gi_rem); exact aw_rem (by decide)) | ((with_reducible apply gi_quo); exact w_quo (by omega) (by decide) (by omega)) | ((with_reducible apply gi_build); first | exact aw_build af_auto) | ((with_reducible apply gi_bslice); first | exact w_bs af_auto (by decide) (by rfl)) | ((with_reducible apply gi_chkn); exact w_chkn ldn_auto) | ((with_reducible apply gi_chk1); exact w_chk1 ld_auto) | ((with_reducible apply gi_sidx); exact sx1 (by assumption)) | ((with_reducible apply gi_fin1); exact aw_fin_1 rv_auto) | ((with_reducible apply gi_fin2); exact aw_fin_2 rv_auto rv_auto) | ((with_reducible apply gi_fin3); exact aw_fin_3 rv_auto rv_auto rv_auto) | (exact aw_tsel_ne (by decide)) | (exact aw_ends (by decide)))); (repeat (apply it; (first | (with_reducible first | exact aw_ite_t | exact aw_ite_f | exact aw_mv | exact aw_fad | exact aw_alloc | exact aw_mkfn | exact aw_leaf | exact aw_pick_t | exact aw_pick_f | exact aw_pick | exact aw_not_t | exact aw_not_f | exact aw_not | exact aw_gop_tt | exact aw_gop_ff | exact aw_gop_tf | exact aw_gop_ft | exact aw_gop_un | exact aw_len_str | exact aw_fin1 | exact aw_fin2 | exact aw_scope | exact aw_tsel_eq | exact aw_nexts | exact w_bneqS | exact w_ineqS | exact w_seqS | exact w_sgeq | exact w_max | exact w_min | exact w_conv8 | exact w_gchk_tt | exact w_gchk_ff | exact w_gchk_tf | exact w_gchk_ft | exact w_gchk_un) | ((with_reducible apply gi_ld1); first | exact w_ld1 ld_auto) | ((with_reducible apply gi_ldn); first | exact w_ldn ldn_auto) | ((with_reducible apply gi_len); first | exact w_len (by assumption)) | ((with_reducible apply gi_box); first | exact aw_box (by rfl)) | ((with_reducible apply gi_st); first | exact w_st (by first | rfl | exact SlRep.cell (by assumption)) (by rfl) wr_auto) | ((with_reducible apply gi_ext); first | exact aw_ext (by rfl)) | ((with_reducible apply gi_fld1); first | exact aw_fld1 (by rfl)) | ((with_reducible apply gi_add); first | exact aw_inc (by omega) | exact aw_addn (by omega) (by omega)) | ((with_reducible apply gi_sub); exact aw_subn (by omega) (by omega)) | ((with_reducible apply gi_rem); exact aw_rem (by decide)) | ((with_reducible apply gi_quo); exact w_quo (by omega) (by decide) (by omega)) | ((with_reducible apply gi_build); first | exact aw_build af_auto) | ((with_reducible apply gi_bslice); first | exact w_bs af_auto (by decide) (by rfl)) | ((with_reducible apply gi_chkn); exact w_chkn ldn_auto) | ((with_reducible apply gi_chk1); exact w_chk1 ld_auto) | ((with_reducible apply gi_sidx); exact sx1 (by assumption)) | ((with_reducible apply gi_fin1); exact aw_fin_1 rv_auto) | ((with_reducible apply gi_fin2); exact aw_fin_2 rv_auto rv_auto) | ((with_reducible apply gi_fin3); exact aw_fin_3 rv_auto rv_auto rv_auto) | (exact aw_tsel_ne (by decide)) | (exact aw_ends (by decide))))); exact fun x => x)) : A := s hb
theorem br {A B C : Prop} (b : B) (c : C) (s : B → C → A := by (with_reducible first | exact aw_lss | exact aw_leq | exact aw_gtr | exact aw_geq | exact aw_eql | exact aw_neq | exact aw_seql | exact aw_sneq | exact w_beql | exact w_bneq | exact aw_ite | exact w_gop)) : A := s b c
theorem ix {α : Type} [Cel α] {P : Program} {h h0 : AH} {Q : Nat → List AV → AH → Prop} {k : AV → Prog} {v : AV} {xs : List α} {F : List Nat} {es i : Nat} {q : IntKind} {x : α} (hk : ∀ b o cs Fi, At h0 b o cs → Cel.rep h0 x cs Fi → (∀ y ∈ Fi, y ∈ F) → (k (.ptr b o)).awp P h Q) (r : SlRep h0 v xs F := by assumption) (hx : xs[i]? = some x := by assumption) (hw : es = Cel.w α := by rfl) : (Prog.op (.idx es v (.int q i)) k).awp P h Q := aw_idx r hx hw hk
theorem ixi {α : Type} [Cel α] {P : Program} {h h0 : AH} {Q : Nat → List AV → AH → Prop} {k : AV → Prog} {v : AV} {xs : List α} {F : List Nat} {es : Nat} {i : Int} {q : IntKind} {x : α} (hk : ∀ b o cs Fi, At h0 b o cs → Cel.rep h0 x cs Fi → (∀ y ∈ Fi, y ∈ F) → (k (.ptr b o)).awp P h Q) (r : SlRep h0 v xs F := by assumption) (hi : 0 ≤ i := by omega) (hx : xs[i.toNat]? = some x := by assumption) (hw : es = Cel.w α := by rfl) : (Prog.op (.idx es v (.int q i)) k).awp P h Q := aw_idxi r hi hx hw hk
end Go.Ab
end
section
/- The values of the program: its structs. Written by mkty.py. -/
set_option linter.unusedSimpArgs false
set_option linter.unusedVariables false
namespace Go.Ab
open Go.RowKit

/-! ### Rules -/
inductive Pol where
  | mk (kind n : Int) (key text : ByteArray) (l : List Pol)
namespace Pol
def kind : Pol → Int | .mk k _ _ _ _ => k
def n : Pol → Int | .mk _ n _ _ _ => n
def key : Pol → ByteArray | .mk _ _ k _ _ => k
def text : Pol → ByteArray | .mk _ _ _ t _ => t
def l : Pol → List Pol | .mk _ _ _ _ l => l
def cs (x : Pol) (v : AV) : List AV := [.int .i64 x.kind, .int .i64 x.n, .str x.key, .str x.text, v]
end Pol
mutual
def Pol.repP (h : AH) : Pol → List AV → List Nat → Prop
  | .mk k n s t l, cs, F => ∃ v, cs = [.int .i64 k, .int .i64 n, .str s, .str t, v] ∧ ShR h 5 v l.length (Pol.repsP h l) F
def Pol.repsP (h : AH) : List Pol → List AV → List Nat → Prop
  | [], cs, F => cs = [] ∧ F = []
  | p :: ps, cs, F => ∃ c1 c2 F1 F2, cs = c1 ++ c2 ∧ F = F1 ++ F2 ∧ Pol.repP h p c1 F1 ∧ Pol.repsP h ps c2 F2
end
mutual
def Pol.okP : Pol → Prop
  | .mk k n s t l => rng k ∧ rng n ∧ s.size ≤ maxLen ∧ t.size ≤ maxLen ∧ Pol.oksP l
def Pol.oksP : List Pol → Prop
  | [] => True
  | p :: ps => Pol.okP p ∧ Pol.oksP ps
end
theorem Pol.len_ {h : AH} : ∀ {x : Pol} {cs : List AV} {F : List Nat}, Pol.repP h x cs F → cs.length = 5
  | .mk k n s t l, cs, F, r => by unfold Pol.repP at r; obtain ⟨v, rfl, _⟩ := r; rfl
theorem ShR.lt {h : AH} {w n : Nat} {v : AV} {R : List AV → List Nat → Prop} {F : List Nat} (r : ShR h w v n R F) (hR : ∀ cs F, R cs F → ∀ b ∈ F, b < h.n) : ∀ b ∈ F, b < h.n := by
  rcases r with ⟨_, _, rfl⟩ | ⟨b, off, F', cs, _, rfl, h1, _, _, _, _, _, h2⟩
  · simp
  · intro x hx
    rcases List.mem_cons.1 hx with e | e
    · rw [e]; exact h1
    · exact hR _ _ h2 x e
theorem ShR.keep {h h' : AH} {w n : Nat} {v : AV} {R R' : List AV → List Nat → Prop} {F : List Nat} (r : ShR h w v n R F) (k : ∀ b ∈ F, h'.get b = h.get b ∧ b < h'.n) (hR : ∀ cs F', (∀ b ∈ F', b ∈ F) → R cs F' → R' cs F') : ShR h' w v n R' F := by
  rcases r with g | ⟨b, off, F', cs, e1, rfl, h1, h2, h3, h4, h5, h6, h7⟩
  · exact .inl g
  · have kb := k b (by simp)
    refine .inr ⟨b, off, F', cs, e1, rfl, kb.2, ?_, ?_, ?_, h5, ?_, hR _ _ (fun x hx => by simp [hx]) h7⟩
    · unfold live; rw [kb.1]; exact h2
    · rw [kb.1]; exact h3
    · rw [kb.1]; exact h4
    · rw [kb.1]; exact h6
mutual
theorem Pol.lt_ {h : AH} : ∀ (x : Pol) (cs : List AV) (F : List Nat), Pol.repP h x cs F → ∀ b ∈ F, b < h.n
  | .mk k n s t l, cs, F, r => by
    unfold Pol.repP at r; obtain ⟨v, rfl, r⟩ := r
    exact r.lt (Pol.lts_ l)
theorem Pol.lts_ {h : AH} : ∀ (x : List Pol) (cs : List AV) (F : List Nat), Pol.repsP h x cs F → ∀ b ∈ F, b < h.n
  | [], cs, F, r => by unfold Pol.repsP at r; obtain ⟨_, rfl⟩ := r; simp
  | p :: ps, cs, F, r => by
    unfold Pol.repsP at r
    obtain ⟨c1, c2, F1, F2, rfl, rfl, r1, r2⟩ := r
    intro b hb
    rcases List.mem_append.1 hb with hb | hb
    · exact Pol.lt_ p c1 F1 r1 b hb
    · exact Pol.lts_ ps c2 F2 r2 b hb
end
mutual
theorem Pol.keep_ {h h' : AH} : ∀ (x : Pol) (cs : List AV) (F : List Nat), Pol.repP h x cs F → (∀ b ∈ F, h'.get b = h.get b ∧ b < h'.n) → Pol.repP h' x cs F
  | .mk k n s t l, cs, F, r, hk => by
    unfold Pol.repP at r ⊢; obtain ⟨v, rfl, r⟩ := r
    exact ⟨v, rfl, r.keep hk fun cs F' hs r => Pol.keeps_ l cs F' r fun b hb => hk b (hs b hb)⟩
theorem Pol.keeps_ {h h' : AH} : ∀ (x : List Pol) (cs : List AV) (F : List Nat), Pol.repsP h x cs F → (∀ b ∈ F, h'.get b = h.get b ∧ b < h'.n) → Pol.repsP h' x cs F
  | [], cs, F, r, hk => by unfold Pol.repsP at r ⊢; exact r
  | p :: ps, cs, F, r, hk => by
    unfold Pol.repsP at r ⊢
    obtain ⟨c1, c2, F1, F2, rfl, rfl, r1, r2⟩ := r
    exact ⟨c1, c2, F1, F2, rfl, rfl, Pol.keep_ p c1 F1 r1 fun b hb => hk b (List.mem_append_left _ hb), Pol.keeps_ ps c2 F2 r2 fun b hb => hk b (List.mem_append_right _ hb)⟩
end
instance : Cel Pol where
  w := 5
  ok := Pol.okP
  rep := Pol.repP
  pos := by decide
  len := fun r => Pol.len_ r
  lt := fun r => Pol.lt_ _ _ _ r
  keep := fun r k => Pol.keep_ _ _ _ r k
theorem Pol.reps_iff {h : AH} : ∀ {l : List Pol} {cs : List AV} {F : List Nat}, Reps h l cs F ↔ Pol.repsP h l cs F
  | [], cs, F => by simp [Reps, Pol.repsP]
  | p :: ps, cs, F => by
    simp only [Reps, Pol.repsP]
    constructor
    · rintro ⟨c1, c2, F1, F2, e1, e2, r1, r2⟩; exact ⟨c1, c2, F1, F2, e1, e2, r1, Pol.reps_iff.1 r2⟩
    · rintro ⟨c1, c2, F1, F2, e1, e2, r1, r2⟩; exact ⟨c1, c2, F1, F2, e1, e2, r1, Pol.reps_iff.2 r2⟩
theorem Pol.rep_iff {h : AH} {x : Pol} {cs : List AV} {F : List Nat} : Cel.rep h x cs F ↔ ∃ v, cs = x.cs v ∧ SlRep h v x.l F := by
  cases x with
  | mk k n s t l =>
    have e : Reps h l = Pol.repsP h l := by funext cs F; exact propext Pol.reps_iff
    show Pol.repP h (.mk k n s t l) cs F ↔ ∃ v, cs = (Pol.mk k n s t l).cs v ∧ ShR h 5 v l.length (Reps h l) F
    rw [e]
    unfold Pol.repP
    rfl
theorem Pol.oks_iff : ∀ {l : List Pol}, Pol.oksP l ↔ ∀ x ∈ l, Cel.ok x
  | [] => by simp [Pol.oksP]
  | p :: ps => by
    simp only [Pol.oksP, List.mem_cons, forall_eq_or_imp]
    exact and_congr Iff.rfl Pol.oks_iff
theorem mk_Pol {h : AH} {a b : Int} {c d : ByteArray} {v : AV} {l : List Pol} {F : List Nat} (ka : Cel.ok a) (kb : Cel.ok b) (kc : Cel.ok c) (kd : Cel.ok d) (r : SlRep h v l F) (kl : Cel.ok l) : ∃ x : Pol, Cel.rep h x ([.int .i64 a] ++ ([.int .i64 b] ++ ([.str c] ++ ([.str d] ++ ([v] ++ []))))) ([] ++ ([] ++ ([] ++ ([] ++ (F ++ []))))) ∧ Cel.ok x :=
  ⟨.mk a b c d l, Pol.rep_iff.2 ⟨v, rfl, by simpa [Pol.l] using r⟩, ka, kb, kc, kd, Pol.oks_iff.2 kl⟩

/-! ### Attr -/
structure Attr where
  key : ByteArray
  num : Bool
  n : Int
  text : ByteArray
def Attr.cs (x : Attr) : List AV := [.str x.key, .bool x.num, .int .i64 x.n, .str x.text]
instance : Cel Attr where
  w := 4
  ok := fun x => Cel.ok x.key ∧ Cel.ok x.n ∧ Cel.ok x.text
  rep := fun h x cs F => cs = x.cs ∧ F = []
  pos := by decide
  len := by rintro h x cs F ⟨rfl, rfl⟩; rfl
  lt := by rintro h x cs F ⟨rfl, rfl⟩; simp
  keep := by rintro h h' x cs F r _; exact r
instance : Flat Attr where
  toCel := inferInstance
  enc := Attr.cs
  rep_iff := Iff.rfl
theorem mk_Attr {h : AH} {a0 : ByteArray} {a1 : Bool} {a2 : Int} {a3 : ByteArray} (k0 : Cel.ok a0) (k1 : Cel.ok a1) (k2 : Cel.ok a2) (k3 : Cel.ok a3) : ∃ x : Attr, Cel.rep h x ([.str a0] ++ ([.bool a1] ++ ([.int .i64 a2] ++ ([.str a3] ++ [])))) ([] ++ ([] ++ ([] ++ ([] ++ [])))) ∧ Cel.ok x := by
  exact ⟨⟨a0, a1, a2, a3⟩, ⟨rfl, rfl⟩, ⟨k0, k2, k3⟩⟩

/-! ### Span -/
structure Span where
  trace : Int
  id : Int
  start : Int
  fin : Int
  err : Bool
  attrs : List Attr
def Span.cs (x : Span) (v0 : AV) : List AV := [.int .i64 x.trace, .int .i64 x.id, .int .i64 x.start, .int .i64 x.fin, .bool x.err, v0]
instance : Cel Span where
  w := 6
  ok := fun x => Cel.ok x.trace ∧ Cel.ok x.id ∧ Cel.ok x.start ∧ Cel.ok x.fin ∧ Cel.ok x.attrs
  rep := fun h x cs F => ∃ v, cs = x.cs v ∧ SlRep h v x.attrs F
  pos := by decide
  len := by rintro h x cs F ⟨v, rfl, _⟩; rfl
  lt := by rintro h x cs F ⟨v, rfl, r⟩; exact r.lt
  keep := by rintro h h' x cs F ⟨v, rfl, r⟩ k; exact ⟨v, rfl, r.keep k⟩
theorem mk_Span {h : AH} {a0 : Int} {a1 : Int} {a2 : Int} {a3 : Int} {a4 : Bool} {a5 : List Attr} {v5 : AV} {F5 : List Nat} (k0 : Cel.ok a0) (k1 : Cel.ok a1) (k2 : Cel.ok a2) (k3 : Cel.ok a3) (k4 : Cel.ok a4) (r5 : SlRep h v5 a5 F5) (k5 : Cel.ok a5) : ∃ x : Span, Cel.rep h x ([.int .i64 a0] ++ ([.int .i64 a1] ++ ([.int .i64 a2] ++ ([.int .i64 a3] ++ ([.bool a4] ++ ([v5] ++ [])))))) ([] ++ ([] ++ ([] ++ ([] ++ ([] ++ (F5 ++ [])))))) ∧ Cel.ok x := by
  exact ⟨⟨a0, a1, a2, a3, a4, a5⟩, ⟨v5, rfl, by simpa using r5⟩, ⟨k0, k1, k2, k3, k5⟩⟩

/-! ### Bucket -/
structure Bucket where
  rate : Int
  burst : Int
  tokens : Int
  at_ : Int
def Bucket.cs (x : Bucket) : List AV := [.int .i64 x.rate, .int .i64 x.burst, .int .i64 x.tokens, .int .i64 x.at_]
instance : Cel Bucket where
  w := 4
  ok := fun x => Cel.ok x.rate ∧ Cel.ok x.burst ∧ Cel.ok x.tokens ∧ Cel.ok x.at_
  rep := fun h x cs F => cs = x.cs ∧ F = []
  pos := by decide
  len := by rintro h x cs F ⟨rfl, rfl⟩; rfl
  lt := by rintro h x cs F ⟨rfl, rfl⟩; simp
  keep := by rintro h h' x cs F r _; exact r
instance : Flat Bucket where
  toCel := inferInstance
  enc := Bucket.cs
  rep_iff := Iff.rfl
theorem mk_Bucket {h : AH} {a0 : Int} {a1 : Int} {a2 : Int} {a3 : Int} (k0 : Cel.ok a0) (k1 : Cel.ok a1) (k2 : Cel.ok a2) (k3 : Cel.ok a3) : ∃ x : Bucket, Cel.rep h x ([.int .i64 a0] ++ ([.int .i64 a1] ++ ([.int .i64 a2] ++ ([.int .i64 a3] ++ [])))) ([] ++ ([] ++ ([] ++ ([] ++ [])))) ∧ Cel.ok x := by
  exact ⟨⟨a0, a1, a2, a3⟩, ⟨rfl, rfl⟩, ⟨k0, k1, k2, k3⟩⟩

/-! ### Timer -/
structure Timer where
  id : Int
  trace : Int
  at_ : Int
def Timer.cs (x : Timer) : List AV := [.int .i64 x.id, .int .i64 x.trace, .int .i64 x.at_]
instance : Cel Timer where
  w := 3
  ok := fun x => Cel.ok x.id ∧ Cel.ok x.trace ∧ Cel.ok x.at_
  rep := fun h x cs F => cs = x.cs ∧ F = []
  pos := by decide
  len := by rintro h x cs F ⟨rfl, rfl⟩; rfl
  lt := by rintro h x cs F ⟨rfl, rfl⟩; simp
  keep := by rintro h h' x cs F r _; exact r
instance : Flat Timer where
  toCel := inferInstance
  enc := Timer.cs
  rep_iff := Iff.rfl
theorem mk_Timer {h : AH} {a0 : Int} {a1 : Int} {a2 : Int} (k0 : Cel.ok a0) (k1 : Cel.ok a1) (k2 : Cel.ok a2) : ∃ x : Timer, Cel.rep h x ([.int .i64 a0] ++ ([.int .i64 a1] ++ ([.int .i64 a2] ++ []))) ([] ++ ([] ++ ([] ++ []))) ∧ Cel.ok x := by
  exact ⟨⟨a0, a1, a2⟩, ⟨rfl, rfl⟩, ⟨k0, k1, k2⟩⟩

/-! ### Wheel -/
structure Wheel where
  now : Int
  near : List (List Timer)
  far : List (List Timer)
  rest : List Timer
def Wheel.cs (x : Wheel) (v0 v1 v2 : AV) : List AV := [.int .i64 x.now, v0, v1, v2]
instance : Cel Wheel where
  w := 4
  ok := fun x => Cel.ok x.now ∧ Cel.ok x.near ∧ Cel.ok x.far ∧ Cel.ok x.rest
  rep := fun h x cs F => ∃ v0 v1 v2 F0 F1 F2, cs = x.cs v0 v1 v2 ∧ F = F0 ++ (F1 ++ (F2)) ∧ SlRep h v0 x.near F0 ∧ SlRep h v1 x.far F1 ∧ SlRep h v2 x.rest F2
  pos := by decide
  len := by rintro h x cs F ⟨v0, v1, v2, F0, F1, F2, rfl, rfl, r0, r1, r2⟩; rfl
  lt := by rintro h x cs F ⟨v0, v1, v2, F0, F1, F2, rfl, rfl, r0, r1, r2⟩; intro b hb; rcases List.mem_append.1 hb with hb | hb; exact r0.lt b hb; rcases List.mem_append.1 hb with hb | hb; exact r1.lt b hb; exact r2.lt b hb
  keep := by rintro h h' x cs F ⟨v0, v1, v2, F0, F1, F2, rfl, rfl, r0, r1, r2⟩ k; exact ⟨_, _, _, _, _, _, rfl, rfl, r0.keep fun b hb => k b (List.mem_append_left _ hb), r1.keep fun b hb => k b (List.mem_append_right _ (List.mem_append_left _ hb)), r2.keep fun b hb => k b (List.mem_append_right _ (List.mem_append_right _ (hb)))⟩
theorem mk_Wheel {h : AH} {a0 : Int} {a1 : List (List Timer)} {v1 : AV} {F1 : List Nat} {a2 : List (List Timer)} {v2 : AV} {F2 : List Nat} {a3 : List Timer} {v3 : AV} {F3 : List Nat} (k0 : Cel.ok a0) (r1 : SlRep h v1 a1 F1) (k1 : Cel.ok a1) (r2 : SlRep h v2 a2 F2) (k2 : Cel.ok a2) (r3 : SlRep h v3 a3 F3) (k3 : Cel.ok a3) : ∃ x : Wheel, Cel.rep h x ([.int .i64 a0] ++ ([v1] ++ ([v2] ++ ([v3] ++ [])))) ([] ++ (F1 ++ (F2 ++ (F3 ++ [])))) ∧ Cel.ok x := by
  exact ⟨⟨a0, a1, a2, a3⟩, ⟨v1, v2, v3, F1, F2, F3, rfl, by simp, r1, r2, r3⟩, ⟨k0, k1, k2, k3⟩⟩

/-! ### Trail -/
structure Trail where
  id : Int
  stamp : Int
  first : Int
  spans : List Span
def Trail.cs (x : Trail) (v0 : AV) : List AV := [.int .i64 x.id, .int .i64 x.stamp, .int .i64 x.first, v0]
instance : Cel Trail where
  w := 4
  ok := fun x => Cel.ok x.id ∧ Cel.ok x.stamp ∧ Cel.ok x.first ∧ Cel.ok x.spans
  rep := fun h x cs F => ∃ v, cs = x.cs v ∧ SlRep h v x.spans F
  pos := by decide
  len := by rintro h x cs F ⟨v, rfl, _⟩; rfl
  lt := by rintro h x cs F ⟨v, rfl, r⟩; exact r.lt
  keep := by rintro h h' x cs F ⟨v, rfl, r⟩ k; exact ⟨v, rfl, r.keep k⟩
theorem mk_Trail {h : AH} {a0 : Int} {a1 : Int} {a2 : Int} {a3 : List Span} {v3 : AV} {F3 : List Nat} (k0 : Cel.ok a0) (k1 : Cel.ok a1) (k2 : Cel.ok a2) (r3 : SlRep h v3 a3 F3) (k3 : Cel.ok a3) : ∃ x : Trail, Cel.rep h x ([.int .i64 a0] ++ ([.int .i64 a1] ++ ([.int .i64 a2] ++ ([v3] ++ [])))) ([] ++ ([] ++ ([] ++ (F3 ++ [])))) ∧ Cel.ok x := by
  exact ⟨⟨a0, a1, a2, a3⟩, ⟨v3, rfl, by simpa using r3⟩, ⟨k0, k1, k2, k3⟩⟩

/-! ### Stripe -/
structure Stripe where
  held : Int
  l : List Trail
def Stripe.cs (x : Stripe) (v0 : AV) : List AV := [.int .i64 x.held, v0]
instance : Cel Stripe where
  w := 2
  ok := fun x => Cel.ok x.held ∧ Cel.ok x.l
  rep := fun h x cs F => ∃ v, cs = x.cs v ∧ SlRep h v x.l F
  pos := by decide
  len := by rintro h x cs F ⟨v, rfl, _⟩; rfl
  lt := by rintro h x cs F ⟨v, rfl, r⟩; exact r.lt
  keep := by rintro h h' x cs F ⟨v, rfl, r⟩ k; exact ⟨v, rfl, r.keep k⟩
theorem mk_Stripe {h : AH} {a0 : Int} {a1 : List Trail} {v1 : AV} {F1 : List Nat} (k0 : Cel.ok a0) (r1 : SlRep h v1 a1 F1) (k1 : Cel.ok a1) : ∃ x : Stripe, Cel.rep h x ([.int .i64 a0] ++ ([v1] ++ [])) ([] ++ (F1 ++ [])) ∧ Cel.ok x := by
  exact ⟨⟨a0, a1⟩, ⟨v1, rfl, by simpa using r1⟩, ⟨k0, k1⟩⟩

/-! ### Conf -/
structure Conf where
  stripes : Int
  wait : Int
  budget : Int
  cache : Int
  queue : Int
  rate : Int
  burst : Int
  rule : Pol
def Conf.cs (x : Conf) (v0 : AV) : List AV := [.int .i64 x.stripes, .int .i64 x.wait, .int .i64 x.budget, .int .i64 x.cache, .int .i64 x.queue, .int .i64 x.rate, .int .i64 x.burst, .int .i64 x.rule.kind, .int .i64 x.rule.n, .str x.rule.key, .str x.rule.text, v0]
instance : Cel Conf where
  w := 12
  ok := fun x => Cel.ok x.stripes ∧ Cel.ok x.wait ∧ Cel.ok x.budget ∧ Cel.ok x.cache ∧ Cel.ok x.queue ∧ Cel.ok x.rate ∧ Cel.ok x.burst ∧ Cel.ok x.rule
  rep := fun h x cs F => ∃ v, cs = x.cs v ∧ SlRep h v x.rule.l F
  pos := by decide
  len := by rintro h x cs F ⟨v, rfl, _⟩; rfl
  lt := by rintro h x cs F ⟨v, rfl, r⟩; exact r.lt
  keep := by rintro h h' x cs F ⟨v, rfl, r⟩ k; exact ⟨v, rfl, r.keep k⟩
theorem mk_Conf {h : AH} {a0 : Int} {a1 : Int} {a2 : Int} {a3 : Int} {a4 : Int} {a5 : Int} {a6 : Int} {a7 : Pol} {c7 : List AV} {F7 : List Nat} (k0 : Cel.ok a0) (k1 : Cel.ok a1) (k2 : Cel.ok a2) (k3 : Cel.ok a3) (k4 : Cel.ok a4) (k5 : Cel.ok a5) (k6 : Cel.ok a6) (r7 : Cel.rep h a7 c7 F7) (k7 : Cel.ok a7) : ∃ x : Conf, Cel.rep h x ([.int .i64 a0] ++ ([.int .i64 a1] ++ ([.int .i64 a2] ++ ([.int .i64 a3] ++ ([.int .i64 a4] ++ ([.int .i64 a5] ++ ([.int .i64 a6] ++ (c7 ++ [])))))))) ([] ++ ([] ++ ([] ++ ([] ++ ([] ++ ([] ++ ([] ++ (F7 ++ [])))))))) ∧ Cel.ok x := by
  obtain ⟨w7, rfl, q7⟩ := Pol.rep_iff.1 r7
  exact ⟨⟨a0, a1, a2, a3, a4, a5, a6, a7⟩, ⟨w7, rfl, by simpa using q7⟩, ⟨k0, k1, k2, k3, k4, k5, k6, k7⟩⟩

/-! ### Itm -/
structure Itm where
  stamp : Int
  s : Span
def Itm.cs (x : Itm) (v0 : AV) : List AV := [.int .i64 x.stamp, .int .i64 x.s.trace, .int .i64 x.s.id, .int .i64 x.s.start, .int .i64 x.s.fin, .bool x.s.err, v0]
instance : Cel Itm where
  w := 7
  ok := fun x => Cel.ok x.stamp ∧ Cel.ok x.s
  rep := fun h x cs F => ∃ v, cs = x.cs v ∧ SlRep h v x.s.attrs F
  pos := by decide
  len := by rintro h x cs F ⟨v, rfl, _⟩; rfl
  lt := by rintro h x cs F ⟨v, rfl, r⟩; exact r.lt
  keep := by rintro h h' x cs F ⟨v, rfl, r⟩ k; exact ⟨v, rfl, r.keep k⟩
theorem mk_Itm {h : AH} {a0 : Int} {a1 : Span} {c1 : List AV} {F1 : List Nat} (k0 : Cel.ok a0) (r1 : Cel.rep h a1 c1 F1) (k1 : Cel.ok a1) : ∃ x : Itm, Cel.rep h x ([.int .i64 a0] ++ (c1 ++ [])) ([] ++ (F1 ++ [])) ∧ Cel.ok x := by
  obtain ⟨w1, rfl, q1⟩ := r1
  exact ⟨⟨a0, a1⟩, ⟨w1, rfl, by simpa using q1⟩, ⟨k0, k1⟩⟩

/-! ### Task -/
structure Task where
  op : Int
  pc : Int
  s : Span
  trace : Int
  stamp : Int
  hand : List Itm
  h : Int
def Task.cs (x : Task) (v0 v1 : AV) : List AV := [.int .i64 x.op, .int .i64 x.pc, .int .i64 x.s.trace, .int .i64 x.s.id, .int .i64 x.s.start, .int .i64 x.s.fin, .bool x.s.err, v0, .int .i64 x.trace, .int .i64 x.stamp, v1, .int .i64 x.h]
instance : Cel Task where
  w := 12
  ok := fun x => Cel.ok x.op ∧ Cel.ok x.pc ∧ Cel.ok x.s ∧ Cel.ok x.trace ∧ Cel.ok x.stamp ∧ Cel.ok x.hand ∧ Cel.ok x.h
  rep := fun h x cs F => ∃ v0 v1 F0 F1, cs = x.cs v0 v1 ∧ F = F0 ++ (F1) ∧ SlRep h v0 x.s.attrs F0 ∧ SlRep h v1 x.hand F1
  pos := by decide
  len := by rintro h x cs F ⟨v0, v1, F0, F1, rfl, rfl, r0, r1⟩; rfl
  lt := by rintro h x cs F ⟨v0, v1, F0, F1, rfl, rfl, r0, r1⟩; intro b hb; rcases List.mem_append.1 hb with hb | hb; exact r0.lt b hb; exact r1.lt b hb
  keep := by rintro h h' x cs F ⟨v0, v1, F0, F1, rfl, rfl, r0, r1⟩ k; exact ⟨_, _, _, _, rfl, rfl, r0.keep fun b hb => k b (List.mem_append_left _ hb), r1.keep fun b hb => k b (List.mem_append_right _ (hb))⟩
theorem mk_Task {h : AH} {a0 : Int} {a1 : Int} {a2 : Span} {c2 : List AV} {F2 : List Nat} {a3 : Int} {a4 : Int} {a5 : List Itm} {v5 : AV} {F5 : List Nat} {a6 : Int} (k0 : Cel.ok a0) (k1 : Cel.ok a1) (r2 : Cel.rep h a2 c2 F2) (k2 : Cel.ok a2) (k3 : Cel.ok a3) (k4 : Cel.ok a4) (r5 : SlRep h v5 a5 F5) (k5 : Cel.ok a5) (k6 : Cel.ok a6) : ∃ x : Task, Cel.rep h x ([.int .i64 a0] ++ ([.int .i64 a1] ++ (c2 ++ ([.int .i64 a3] ++ ([.int .i64 a4] ++ ([v5] ++ ([.int .i64 a6] ++ []))))))) ([] ++ ([] ++ (F2 ++ ([] ++ ([] ++ (F5 ++ ([] ++ []))))))) ∧ Cel.ok x := by
  obtain ⟨w2, rfl, q2⟩ := r2
  exact ⟨⟨a0, a1, a2, a3, a4, a5, a6⟩, ⟨w2, v5, F2, F5, rfl, by simp, q2, r5⟩, ⟨k0, k1, k2, k3, k4, k5, k6⟩⟩

/-! ### Deed -/
structure Deed where
  op : Int
  task : Int
  s : Span
  trace : Int
  stamp : Int
  code : Int
  keep : Bool
  void : Bool
  took : Int
  n : Int
  forgot : Int
  now : Int
  inv : Int
  lin : Int
  res : Int
def Deed.cs (x : Deed) (v0 : AV) : List AV := [.int .i64 x.op, .int .i64 x.task, .int .i64 x.s.trace, .int .i64 x.s.id, .int .i64 x.s.start, .int .i64 x.s.fin, .bool x.s.err, v0, .int .i64 x.trace, .int .i64 x.stamp, .int .i64 x.code, .bool x.keep, .bool x.void, .int .i64 x.took, .int .i64 x.n, .int .i64 x.forgot, .int .i64 x.now, .int .i64 x.inv, .int .i64 x.lin, .int .i64 x.res]
instance : Cel Deed where
  w := 20
  ok := fun x => Cel.ok x.op ∧ Cel.ok x.task ∧ Cel.ok x.s ∧ Cel.ok x.trace ∧ Cel.ok x.stamp ∧ Cel.ok x.code ∧ Cel.ok x.took ∧ Cel.ok x.n ∧ Cel.ok x.forgot ∧ Cel.ok x.now ∧ Cel.ok x.inv ∧ Cel.ok x.lin ∧ Cel.ok x.res
  rep := fun h x cs F => ∃ v, cs = x.cs v ∧ SlRep h v x.s.attrs F
  pos := by decide
  len := by rintro h x cs F ⟨v, rfl, _⟩; rfl
  lt := by rintro h x cs F ⟨v, rfl, r⟩; exact r.lt
  keep := by rintro h h' x cs F ⟨v, rfl, r⟩ k; exact ⟨v, rfl, r.keep k⟩
theorem mk_Deed {h : AH} {a0 : Int} {a1 : Int} {a2 : Span} {c2 : List AV} {F2 : List Nat} {a3 : Int} {a4 : Int} {a5 : Int} {a6 : Bool} {a7 : Bool} {a8 : Int} {a9 : Int} {a10 : Int} {a11 : Int} {a12 : Int} {a13 : Int} {a14 : Int} (k0 : Cel.ok a0) (k1 : Cel.ok a1) (r2 : Cel.rep h a2 c2 F2) (k2 : Cel.ok a2) (k3 : Cel.ok a3) (k4 : Cel.ok a4) (k5 : Cel.ok a5) (k6 : Cel.ok a6) (k7 : Cel.ok a7) (k8 : Cel.ok a8) (k9 : Cel.ok a9) (k10 : Cel.ok a10) (k11 : Cel.ok a11) (k12 : Cel.ok a12) (k13 : Cel.ok a13) (k14 : Cel.ok a14) : ∃ x : Deed, Cel.rep h x ([.int .i64 a0] ++ ([.int .i64 a1] ++ (c2 ++ ([.int .i64 a3] ++ ([.int .i64 a4] ++ ([.int .i64 a5] ++ ([.bool a6] ++ ([.bool a7] ++ ([.int .i64 a8] ++ ([.int .i64 a9] ++ ([.int .i64 a10] ++ ([.int .i64 a11] ++ ([.int .i64 a12] ++ ([.int .i64 a13] ++ ([.int .i64 a14] ++ []))))))))))))))) ([] ++ ([] ++ (F2 ++ ([] ++ ([] ++ ([] ++ ([] ++ ([] ++ ([] ++ ([] ++ ([] ++ ([] ++ ([] ++ ([] ++ ([] ++ []))))))))))))))) ∧ Cel.ok x := by
  obtain ⟨w2, rfl, q2⟩ := r2
  exact ⟨⟨a0, a1, a2, a3, a4, a5, a6, a7, a8, a9, a10, a11, a12, a13, a14⟩, ⟨w2, rfl, by simpa using q2⟩, ⟨k0, k1, k2, k3, k4, k5, k8, k9, k10, k11, k12, k13, k14⟩⟩

/-! ### Wld -/
structure Wld where
  c : Conf
  time : Int
  shut : Bool
  st : List Stripe
  ruleHeld : Int
  b : Bucket
  cache : List Verdict
  used : Int
  w : Wheel
  due : List Timer
  queue : List Itm
  out : List Itm
  tasks : List Task
  deeds : List Deed
  next : Int
def Wld.cs (x : Wld) (v0 v1 v2 v3 v4 v5 v6 v7 v8 v9 v10 : AV) : List AV := [.int .i64 x.c.stripes, .int .i64 x.c.wait, .int .i64 x.c.budget, .int .i64 x.c.cache, .int .i64 x.c.queue, .int .i64 x.c.rate, .int .i64 x.c.burst, .int .i64 x.c.rule.kind, .int .i64 x.c.rule.n, .str x.c.rule.key, .str x.c.rule.text, v0, .int .i64 x.time, .bool x.shut, v1, .int .i64 x.ruleHeld, .int .i64 x.b.rate, .int .i64 x.b.burst, .int .i64 x.b.tokens, .int .i64 x.b.at_, v2, .int .i64 x.used, .int .i64 x.w.now, v3, v4, v5, v6, v7, v8, v9, v10, .int .i64 x.next]
instance : Cel Wld where
  w := 32
  ok := fun x => Cel.ok x.c ∧ Cel.ok x.time ∧ Cel.ok x.st ∧ Cel.ok x.ruleHeld ∧ Cel.ok x.b ∧ Cel.ok x.cache ∧ Cel.ok x.used ∧ Cel.ok x.w ∧ Cel.ok x.due ∧ Cel.ok x.queue ∧ Cel.ok x.out ∧ Cel.ok x.tasks ∧ Cel.ok x.deeds ∧ Cel.ok x.next
  rep := fun h x cs F => ∃ v0 v1 v2 v3 v4 v5 v6 v7 v8 v9 v10 F0 F1 F2 F3 F4 F5 F6 F7 F8 F9 F10, cs = x.cs v0 v1 v2 v3 v4 v5 v6 v7 v8 v9 v10 ∧ F = F0 ++ (F1 ++ (F2 ++ (F3 ++ (F4 ++ (F5 ++ (F6 ++ (F7 ++ (F8 ++ (F9 ++ (F10)))))))))) ∧ SlRep h v0 x.c.rule.l F0 ∧ SlRep h v1 x.st F1 ∧ SlRep h v2 x.cache F2 ∧ SlRep h v3 x.w.near F3 ∧ SlRep h v4 x.w.far F4 ∧ SlRep h v5 x.w.rest F5 ∧ SlRep h v6 x.due F6 ∧ SlRep h v7 x.queue F7 ∧ SlRep h v8 x.out F8 ∧ SlRep h v9 x.tasks F9 ∧ SlRep h v10 x.deeds F10
  pos := by decide
  len := by rintro h x cs F ⟨v0, v1, v2, v3, v4, v5, v6, v7, v8, v9, v10, F0, F1, F2, F3, F4, F5, F6, F7, F8, F9, F10, rfl, rfl, r0, r1, r2, r3, r4, r5, r6, r7, r8, r9, r10⟩; rfl
  lt := by rintro h x cs F ⟨v0, v1, v2, v3, v4, v5, v6, v7, v8, v9, v10, F0, F1, F2, F3, F4, F5, F6, F7, F8, F9, F10, rfl, rfl, r0, r1, r2, r3, r4, r5, r6, r7, r8, r9, r10⟩; intro b hb; rcases List.mem_append.1 hb with hb | hb; exact r0.lt b hb; rcases List.mem_append.1 hb with hb | hb; exact r1.lt b hb; rcases List.mem_append.1 hb with hb | hb; exact r2.lt b hb; rcases List.mem_append.1 hb with hb | hb; exact r3.lt b hb; rcases List.mem_append.1 hb with hb | hb; exact r4.lt b hb; rcases List.mem_append.1 hb with hb | hb; exact r5.lt b hb; rcases List.mem_append.1 hb with hb | hb; exact r6.lt b hb; rcases List.mem_append.1 hb with hb | hb; exact r7.lt b hb; rcases List.mem_append.1 hb with hb | hb; exact r8.lt b hb; rcases List.mem_append.1 hb with hb | hb; exact r9.lt b hb; exact r10.lt b hb
  keep := by rintro h h' x cs F ⟨v0, v1, v2, v3, v4, v5, v6, v7, v8, v9, v10, F0, F1, F2, F3, F4, F5, F6, F7, F8, F9, F10, rfl, rfl, r0, r1, r2, r3, r4, r5, r6, r7, r8, r9, r10⟩ k; exact ⟨_, _, _, _, _, _, _, _, _, _, _, _, _, _, _, _, _, _, _, _, _, _, rfl, rfl, r0.keep fun b hb => k b (List.mem_append_left _ hb), r1.keep fun b hb => k b (List.mem_append_right _ (List.mem_append_left _ hb)), r2.keep fun b hb => k b (List.mem_append_right _ (List.mem_append_right _ (List.mem_append_left _ hb))), r3.keep fun b hb => k b (List.mem_append_right _ (List.mem_append_right _ (List.mem_append_right _ (List.mem_append_left _ hb)))), r4.keep fun b hb => k b (List.mem_append_right _ (List.mem_append_right _ (List.mem_append_right _ (List.mem_append_right _ (List.mem_append_left _ hb))))), r5.keep fun b hb => k b (List.mem_append_right _ (List.mem_append_right _ (List.mem_append_right _ (List.mem_append_right _ (List.mem_append_right _ (List.mem_append_left _ hb)))))), r6.keep fun b hb => k b (List.mem_append_right _ (List.mem_append_right _ (List.mem_append_right _ (List.mem_append_right _ (List.mem_append_right _ (List.mem_append_right _ (List.mem_append_left _ hb))))))), r7.keep fun b hb => k b (List.mem_append_right _ (List.mem_append_right _ (List.mem_append_right _ (List.mem_append_right _ (List.mem_append_right _ (List.mem_append_right _ (List.mem_append_right _ (List.mem_append_left _ hb)))))))), r8.keep fun b hb => k b (List.mem_append_right _ (List.mem_append_right _ (List.mem_append_right _ (List.mem_append_right _ (List.mem_append_right _ (List.mem_append_right _ (List.mem_append_right _ (List.mem_append_right _ (List.mem_append_left _ hb))))))))), r9.keep fun b hb => k b (List.mem_append_right _ (List.mem_append_right _ (List.mem_append_right _ (List.mem_append_right _ (List.mem_append_right _ (List.mem_append_right _ (List.mem_append_right _ (List.mem_append_right _ (List.mem_append_right _ (List.mem_append_left _ hb)))))))))), r10.keep fun b hb => k b (List.mem_append_right _ (List.mem_append_right _ (List.mem_append_right _ (List.mem_append_right _ (List.mem_append_right _ (List.mem_append_right _ (List.mem_append_right _ (List.mem_append_right _ (List.mem_append_right _ (List.mem_append_right _ (hb)))))))))))⟩
theorem mk_Wld {h : AH} {a0 : Conf} {c0 : List AV} {F0 : List Nat} {a1 : Int} {a2 : Bool} {a3 : List Stripe} {v3 : AV} {F3 : List Nat} {a4 : Int} {a5 : Bucket} {c5 : List AV} {F5 : List Nat} {a6 : List Verdict} {v6 : AV} {F6 : List Nat} {a7 : Int} {a8 : Wheel} {c8 : List AV} {F8 : List Nat} {a9 : List Timer} {v9 : AV} {F9 : List Nat} {a10 : List Itm} {v10 : AV} {F10 : List Nat} {a11 : List Itm} {v11 : AV} {F11 : List Nat} {a12 : List Task} {v12 : AV} {F12 : List Nat} {a13 : List Deed} {v13 : AV} {F13 : List Nat} {a14 : Int} (r0 : Cel.rep h a0 c0 F0) (k0 : Cel.ok a0) (k1 : Cel.ok a1) (k2 : Cel.ok a2) (r3 : SlRep h v3 a3 F3) (k3 : Cel.ok a3) (k4 : Cel.ok a4) (r5 : Cel.rep h a5 c5 F5) (k5 : Cel.ok a5) (r6 : SlRep h v6 a6 F6) (k6 : Cel.ok a6) (k7 : Cel.ok a7) (r8 : Cel.rep h a8 c8 F8) (k8 : Cel.ok a8) (r9 : SlRep h v9 a9 F9) (k9 : Cel.ok a9) (r10 : SlRep h v10 a10 F10) (k10 : Cel.ok a10) (r11 : SlRep h v11 a11 F11) (k11 : Cel.ok a11) (r12 : SlRep h v12 a12 F12) (k12 : Cel.ok a12) (r13 : SlRep h v13 a13 F13) (k13 : Cel.ok a13) (k14 : Cel.ok a14) : ∃ x : Wld, Cel.rep h x (c0 ++ ([.int .i64 a1] ++ ([.bool a2] ++ ([v3] ++ ([.int .i64 a4] ++ (c5 ++ ([v6] ++ ([.int .i64 a7] ++ (c8 ++ ([v9] ++ ([v10] ++ ([v11] ++ ([v12] ++ ([v13] ++ ([.int .i64 a14] ++ []))))))))))))))) (F0 ++ ([] ++ ([] ++ (F3 ++ ([] ++ (F5 ++ (F6 ++ ([] ++ (F8 ++ (F9 ++ (F10 ++ (F11 ++ (F12 ++ (F13 ++ ([] ++ []))))))))))))))) ∧ Cel.ok x := by
  obtain ⟨w0, rfl, q0⟩ := r0
  obtain ⟨rfl, rfl⟩ := r5
  obtain ⟨w8_0, w8_1, w8_2, G8_0, G8_1, G8_2, rfl, rfl, q8_0, q8_1, q8_2⟩ := r8
  exact ⟨⟨a0, a1, a2, a3, a4, a5, a6, a7, a8, a9, a10, a11, a12, a13, a14⟩, ⟨w0, v3, v6, w8_0, w8_1, w8_2, v9, v10, v11, v12, v13, F0, F3, F6, G8_0, G8_1, G8_2, F9, F10, F11, F12, F13, rfl, by simp, q0, r3, r6, q8_0, q8_1, q8_2, r9, r10, r11, r12, r13⟩, ⟨k0, k1, k3, k4, k5, k6, k7, k8, k9, k10, k11, k12, k13, k14⟩⟩
end Go.Ab
end
section
/- Marks on what is nested: fields, one by one. -/
set_option linter.unusedSimpArgs false
set_option linter.unusedVariables false
namespace Go.Ab
open Go.RowKit

def mdig : Nat → Nat → List UInt8
  | 0, _ => []
  | fuel + 1, k => if k = 0 then [] else mdig fuel (k / 10) ++ [UInt8.ofNat (48 + k % 10)]
def mtext (k : Int) : ByteArray := if k ≤ 0 then ⟨#[109, 48]⟩ else ⟨(109 :: mdig k.toNat k.toNat).toArray⟩

inductive FV : Type 1 where
  | i (n : Int)
  | b (x : Bool)
  | s (x : ByteArray)
  | l {β : Type} (c : Cel β) (m : Mk β) (xs : List β)
def RepF (h : AH) : List FV → List AV → List Nat → Prop
  | [], cs, F => cs = [] ∧ F = []
  | .i n :: fs, cs, F => ∃ d, cs = .int .i64 n :: d ∧ RepF h fs d F
  | .b n :: fs, cs, F => ∃ d, cs = .bool n :: d ∧ RepF h fs d F
  | .s n :: fs, cs, F => ∃ d, cs = .str n :: d ∧ RepF h fs d F
  | .l c _ xs :: fs, cs, F => ∃ v d F1 F2, cs = v :: d ∧ F = F1 ++ F2 ∧ SlRep h v xs F1 ∧ RepF h fs d F2
def putF : Int → List FV → List FV × Int
  | m, [] => ([], m)
  | m, .i _ :: fs => (.i m :: (putF (m + 1) fs).1, (putF (m + 1) fs).2)
  | m, .b _ :: fs => (.b (decide (m.tmod 3 = 0)) :: (putF (m + 1) fs).1, (putF (m + 1) fs).2)
  | m, .s _ :: fs => (.s (mtext m) :: (putF (m + 1) fs).1, (putF (m + 1) fs).2)
  | m, .l c k xs :: fs => (.l c k (mks m xs).1 :: (putF (mks m xs).2 fs).1, (putF (mks m xs).2 fs).2)

theorem RepF.lt {h : AH} : ∀ {fs : List FV} {cs : List AV} {F : List Nat}, RepF h fs cs F → ∀ b ∈ F, b < h.n
  | [], cs, F, r => by obtain ⟨_, rfl⟩ := r; simp
  | .i _ :: fs, cs, F, r => by obtain ⟨d, _, r⟩ := r; exact r.lt
  | .b _ :: fs, cs, F, r => by obtain ⟨d, _, r⟩ := r; exact r.lt
  | .s _ :: fs, cs, F, r => by obtain ⟨d, _, r⟩ := r; exact r.lt
  | .l c _ xs :: fs, cs, F, r => by
    obtain ⟨v, d, F1, F2, _, rfl, r1, r2⟩ := r
    intro b hb
    rcases List.mem_append.1 hb with hb | hb
    · exact r1.lt b hb
    · exact r2.lt b hb
theorem RepF.keep {h h' : AH} : ∀ {fs : List FV} {cs : List AV} {F : List Nat}, RepF h fs cs F → (∀ b ∈ F, h'.get b = h.get b ∧ b < h'.n) → RepF h' fs cs F
  | [], cs, F, r, _ => r
  | .i _ :: fs, cs, F, r, k => by obtain ⟨d, e, r⟩ := r; exact ⟨d, e, r.keep k⟩
  | .b _ :: fs, cs, F, r, k => by obtain ⟨d, e, r⟩ := r; exact ⟨d, e, r.keep k⟩
  | .s _ :: fs, cs, F, r, k => by obtain ⟨d, e, r⟩ := r; exact ⟨d, e, r.keep k⟩
  | .l c _ xs :: fs, cs, F, r, k => by
    obtain ⟨v, d, F1, F2, e, rfl, r1, r2⟩ := r
    exact ⟨v, d, F1, F2, e, rfl, r1.keep fun b hb => k b (List.mem_append_left _ hb), r2.keep fun b hb => k b (List.mem_append_right _ hb)⟩
def UpF : List FV → Prop
  | [] => True
  | .l _ k xs :: fs => (∀ m, m ≤ (mks m xs).2) ∧ UpF fs
  | _ :: fs => UpF fs
class Fld (α : Type) [Cel α] [Mk α] where
  f : α → List FV
  rep : ∀ (h : AH) (x : α) (cs : List AV) (F : List Nat), Cel.rep h x cs F ↔ RepF h (f x) cs F
  put : ∀ (m : Int) (x : α), f (Mk.put m x).1 = (putF m (f x)).1 ∧ (Mk.put m x).2 = (putF m (f x)).2
  ups : ∀ x, UpF (f x)

class MkUp (α : Type) [Mk α] where
  up : ∀ (m : Int) (x : α), m ≤ (Mk.put m x).2
theorem putF_up : ∀ (fs : List FV) (m : Int), UpF fs → m ≤ (putF m fs).2
  | [], m, _ => by simp [putF]
  | .i _ :: fs, m, u => by have := putF_up fs (m + 1) u; simp only [putF]; omega
  | .b _ :: fs, m, u => by have := putF_up fs (m + 1) u; simp only [putF]; omega
  | .s _ :: fs, m, u => by have := putF_up fs (m + 1) u; simp only [putF]; omega
  | .l c k xs :: fs, m, u => by have := u.1 m; have := putF_up fs (mks m xs).2 u.2; simp only [putF]; omega

/-! ### The shallow programs -/
inductive MKd where
  | i
  | b
  | s (f : FuncId)
  | l (f : FuncId)
def fads : List Nat → AV → (AV → Prog) → Prog
  | [], v, K => K v
  | p :: ps, v, K => .op (.fad p v) fun v => fads ps v K
def mBody (w : Nat) (x0 i : AV) : List (List Nat × MKd) → AV → (AV → Prog) → Prog
  | [], k, K => K k
  | (p, .i) :: fs, k, K => .op (.idx w x0 i) fun v => fads p v fun v => .op (.st 1 v k) fun _ => .op (.bin 0 .add k (.int .i64 1)) fun k => mBody w x0 i fs k K
  | (p, .b) :: fs, k, K => .op (.bin 0 .rem k (.int .i64 3)) fun a => .op (.bin 0 .eql a (.int .i64 0)) fun a => .op (.idx w x0 i) fun v => fads p v fun v => .op (.st 1 v a) fun _ => .op (.bin 0 .add k (.int .i64 1)) fun k => mBody w x0 i fs k K
  | (p, .s f) :: fs, k, K => .op (.call f [k]) fun a => .op (.idx w x0 i) fun v => fads p v fun v => .op (.st 1 v a) fun _ => .op (.bin 0 .add k (.int .i64 1)) fun k => mBody w x0 i fs k K
  | (p, .l f) :: fs, k, K => .op (.idx w x0 i) fun v => fads p v fun v => .op (.ld1 v) fun v => .op (.call f [v, k]) fun k => mBody w x0 i fs k K
def pMark (w : Nat) (fs : List (List Nat × MKd)) (x0 x1 : AV) : Prog := .loop [x1, AV.int .i64 0] (fun vs => .op (.len 0 x0) fun v => .op (.bin 0 .lss (g vs 1) v) fun v => .ite v (mBody w x0 (g vs 1) fs (g vs 0) fun k => .op (.bin 0 .add (g vs 1) (AV.int .i64 1)) fun j => .leaf 0 [k, j]) (.leaf 2 [g vs 0, g vs 1])) fun t vs => tsel t 1 (.leaf 1 vs) (tsel t 2 (.fin [.val (g vs 0)]) .bad)
def hBody (w : Nat) (x0 i : AV) : List (List Nat × MKd) → AV → (AV → Prog) → Prog
  | [], k, K => K k
  | (p, .i) :: fs, k, K => .op (.idx w x0 i) fun v => fads p v fun v => .op (.ld1 v) fun v => .op (.bin 0 .neq v k) fun v => .ite v (.fin [.val (AV.int .i64 (-1))]) (.op (.bin 0 .add k (.int .i64 1)) fun k => hBody w x0 i fs k K)
  | (p, .b) :: fs, k, K => .op (.idx w x0 i) fun v => fads p v fun v => .op (.ld1 v) fun v => .op (.bin 0 .rem k (.int .i64 3)) fun a => .op (.bin 0 .eql a (.int .i64 0)) fun a => .op (.bin 2 .neq v a) fun v => .ite v (.fin [.val (AV.int .i64 (-1))]) (.op (.bin 0 .add k (.int .i64 1)) fun k => hBody w x0 i fs k K)
  | (p, .s f) :: fs, k, K => .op (.idx w x0 i) fun v => fads p v fun v => .op (.ld1 v) fun u => .op (.call f [k]) fun a => .chk (.ld1 v) u (.op (.bin 1 .neq u a) fun v => .ite v (.fin [.val (AV.int .i64 (-1))]) (.op (.bin 0 .add k (.int .i64 1)) fun k => hBody w x0 i fs k K))
  | (p, .l f) :: fs, k, K => .op (.idx w x0 i) fun v => fads p v fun v => .op (.ld1 v) fun v => .op (.call f [v, k]) fun k => .op (.bin 0 .lss k (AV.int .i64 0)) fun v => .ite v (.fin [.val (AV.int .i64 (-1))]) (hBody w x0 i fs k K)
def pHeld (w : Nat) (fs : List (List Nat × MKd)) (x0 x1 : AV) : Prog := .loop [x1, AV.int .i64 0] (fun vs => .op (.len 0 x0) fun v => .op (.bin 0 .lss (g vs 1) v) fun v => .ite v (hBody w x0 (g vs 1) fs (g vs 0) fun k => .op (.bin 0 .add (g vs 1) (AV.int .i64 1)) fun j => .leaf 0 [k, j]) (.leaf 2 [g vs 0, g vs 1])) fun t vs => tsel t 1 (.leaf 1 vs) (tsel t 2 (.fin [.val (g vs 0)]) .bad)

def MText (P : Program) (f : FuncId) : Prop := ∀ (k : Int) (h : AH), 0 ≤ k → k ≤ 1099511627776 → RCalls P f [.int .i64 k] h (.str (mtext k))
def MarkX (α : Type) [Cel α] [Mk α] (P : Program) (f : FuncId) (xs : List α) : Prop := ∀ (v : AV) (F : List Nat) (n : Nat) (m : Int) (h : AH), SlRep h v xs F → Own n h F → 0 ≤ m → (mks m xs).2 ≤ 1099511627776 →
  ACalls P f [v, .int .i64 m] h fun r h' => r = .int .i64 (mks m xs).2 ∧ Kp h h' F ∧ SlRep h' v (mks m xs).1 F ∧ Own n h' F
def HeldX (α : Type) [Cel α] [Mk α] (P : Program) (f : FuncId) (xs : List α) : Prop := ∀ (v : AV) (F : List Nat) (m : Int) (h : AH), SlRep h v (mks m xs).1 F → 0 ≤ m → (mks m xs).2 ≤ 1099511627776 → RCalls P f [v, .int .i64 m] h (.int .i64 (mks m xs).2)
theorem MarkS.x {α : Type} [Cel α] [Mk α] {P : Program} {f : FuncId} (h : MarkS α P f) {xs : List α} : MarkX α P f xs := h xs
theorem HeldS.x {α : Type} [Cel α] [Mk α] {P : Program} {f : FuncId} (h : HeldS α P f) {xs : List α} : HeldX α P f xs := h xs
def MOk (P : Program) : List (List Nat × MKd) → List FV → Nat → Prop
  | [], [], _ => True
  | (p, .i) :: ss, .i _ :: fs, j => p.sum = j ∧ MOk P ss fs (j + 1)
  | (p, .b) :: ss, .b _ :: fs, j => p.sum = j ∧ MOk P ss fs (j + 1)
  | (p, .s f) :: ss, .s _ :: fs, j => p.sum = j ∧ MText P f ∧ MOk P ss fs (j + 1)
  | (p, .l f) :: ss, .l (β := β) c k xs :: fs, j => p.sum = j ∧ @MarkX β c k P f xs ∧ MOk P ss fs (j + 1)
  | _, _, _ => False
def HOk (P : Program) : List (List Nat × MKd) → List FV → Nat → Prop
  | [], [], _ => True
  | (p, .i) :: ss, .i _ :: fs, j => p.sum = j ∧ HOk P ss fs (j + 1)
  | (p, .b) :: ss, .b _ :: fs, j => p.sum = j ∧ HOk P ss fs (j + 1)
  | (p, .s f) :: ss, .s _ :: fs, j => p.sum = j ∧ MText P f ∧ HOk P ss fs (j + 1)
  | (p, .l f) :: ss, .l (β := β) c k xs :: fs, j => p.sum = j ∧ @HeldX β c k P f xs ∧ HOk P ss fs (j + 1)
  | _, _, _ => False

section
variable {P : Program} {h h' : AH} {Q : Nat → List AV → AH → Prop}
theorem aw_fads {K : AV → Prog} : ∀ (p : List Nat) {b o : Nat}, (K (.ptr b (o + p.sum))).awp P h Q → (fads p (.ptr b o) K).awp P h Q
  | [], b, o, hk => by simpa [fads] using hk
  | x :: p, b, o, hk => by
    refine aw_fad (aw_fads p ?_)
    simpa [Nat.add_assoc] using hk

theorem aw_st_g {b es o : Nat} {A R : List AV} {x c v : AV} {k : AV → Prog} (hg : h.get b = ⟨A ++ (c :: R), es, 0⟩) (hx : x.cells? = some [v]) (ho : o = A.length) (hk : (k (.tup [])).awp P (h.upd b ⟨A ++ (v :: R), es, 0⟩) Q) :
    (Prog.op (.st 1 (.ptr b o) x) k).awp P h Q := by
  refine aw_st (by simp [mine, hg]) hx rfl (by rw [hg]; simp; omega) ?_
  have : splice (A ++ (c :: R)) o [v] = A ++ (v :: R) := by
    subst ho; unfold splice
    rw [List.take_left, show A.length + [v].length = (A ++ [c]).length by simp, show A ++ (c :: R) = (A ++ [c]) ++ R by simp, List.drop_left]; simp
  rw [hg]; simp only [this]; exact hk
theorem aw_ld_g {b es o : Nat} {A R : List AV} {c : AV} {k : AV → Prog} (hg : h.get b = ⟨A ++ (c :: R), es, 0⟩) (ho : o = A.length) (hk : (k c).awp P h Q) : (Prog.op (.ld1 (.ptr b o)) k).awp P h Q := by
  subst ho
  exact aw_ld1 (by rw [hg]; simp) (by simp [live, hg]) hk

theorem kp_upd_in {b : Nat} {k : Blk} {X : List Nat} (hb : b ∈ X) : Kp h (h.upd b k) X := ⟨Nat.le_refl _, fun c _ hX => by
  have : c ≠ b := fun e => hX (e ▸ hb)
  simp [this]⟩
theorem Kp.mono {X Y : List Nat} (k : Kp h h' X) (hs : ∀ b ∈ X, b ∈ Y) : Kp h h' Y := ⟨k.1, fun b hb hn => k.2 b hb fun hx => hn (hs b hx)⟩

theorem mBody_spec {w b off len i : Nat} {K : AV → Prog} (hi : i < len) {n : Nat} : ∀ (fs : List FV) (ss : List (List Nat × MKd)) (j : Nat) (A E R : List AV) (G : List Nat) (m : Int) (h : AH), MOk P ss fs j → UpF fs → h.get b = ⟨A ++ (E ++ R), w, 0⟩ → b < h.n → A.length = off + i * w + j → RepF h fs E G → Own n h G → b ∉ G → 0 ≤ m → (putF m fs).2 ≤ 1099511627776 →
    (∀ h' E', h'.get b = ⟨A ++ (E' ++ R), w, 0⟩ → RepF h' (putF m fs).1 E' G → Own n h' G → Kp h h' (b :: G) → (K (.int .i64 (putF m fs).2)).awp P h' Q) →
    (mBody w (.sl b off len) (.int .i64 i) ss (.int .i64 m) K).awp P h Q := by
  have cellStep : ∀ (fs : List FV) (ss : List (List Nat × MKd)) (j : Nat) (A E R : List AV) (G : List Nat) (m : Int) (h : AH) (c v : AV) (f' : FV) (mk : List FV → List FV),
      h.get b = ⟨A ++ (c :: (E ++ R)), w, 0⟩ → b < h.n → A.length = off + i * w + j → RepF h fs E G → Own n h G → b ∉ G →
      (∀ h', h' = h.upd b ⟨A ++ (v :: (E ++ R)), w, 0⟩ → h'.get b = ⟨(A ++ [v]) ++ (E ++ R), w, 0⟩ ∧ b < h'.n ∧ (A ++ [v]).length = off + i * w + (j + 1) ∧ RepF h' fs E G ∧ Own n h' G ∧ Kp h h' (b :: G)) := by
    intro fs ss j A E R G m h c v f' mk hg hb hA r o hbG h' e
    subst e
    have hk : ∀ x ∈ G, (h.upd b ⟨A ++ (v :: (E ++ R)), w, 0⟩).get x = h.get x := fun x hx => by
      have : x ≠ b := fun e => hbG (e ▸ hx)
      simp [this]
    exact ⟨by simp, by simpa using hb, by simp; omega, r.keep fun x hx => ⟨hk x hx, by simpa using r.lt x hx⟩, o.mono (Nat.le_refl _) hk, kp_upd_in (by simp)⟩
  intro fs
  induction fs with
  | nil =>
    intro ss j A E R G m h hok _ hg hb hA r o hbG h0 h1 hk
    obtain ⟨rfl, rfl⟩ := r
    cases ss with
    | nil => exact hk h [] hg ⟨rfl, rfl⟩ o (Kp.refl _ _)
    | cons s ss => simp only [MOk, HOk] at hok
  | cons f fs ih =>
    intro ss j A E R G m h hok hu hg hb hA r o hbG h0 h1 hk
    cases ss with
    | nil => exact hok.elim
    | cons s ss =>
      obtain ⟨p, s⟩ := s
      cases f with
      | i x =>
        cases s <;> simp only [MOk] at hok
        obtain ⟨rfl, hok⟩ := hok
        obtain ⟨E, rfl, r⟩ := r
        have hup := putF_up fs (m + 1) hu
        simp only [putF] at h1 hk
        obtain ⟨c1, c2, c3, c4, c5, c6⟩ := cellStep fs ss _ A E R G m h _ (.int .i64 m) (.i m) id hg hb hA r o hbG _ rfl
        refine aw_idx_n hi (aw_fads p (aw_st_g hg rfl (by omega) (aw_addn (by omega) (by omega) (ih ss _ _ E R G (m + 1) _ hok hu c1 c2 c3 c4 c5 hbG (by omega) h1 ?_))))
        intro h' E' g1 g2 g3 g4
        exact hk h' (.int .i64 m :: E') (by rw [g1]; simp) ⟨E', rfl, g2⟩ g3 (c6.trans g4)
      | b x =>
        cases s <;> simp only [MOk] at hok
        obtain ⟨rfl, hok⟩ := hok
        obtain ⟨E, rfl, r⟩ := r
        have hup := putF_up fs (m + 1) hu
        simp only [putF] at h1 hk
        obtain ⟨c1, c2, c3, c4, c5, c6⟩ := cellStep fs ss _ A E R G m h _ (.bool (decide (m.tmod 3 = 0))) (.i m) id hg hb hA r o hbG _ rfl
        refine aw_rem (by decide) ?_
        have key : (Prog.op (.idx w (.sl b off len) (.int .i64 i)) fun v => fads p v fun v => .op (.st 1 v (.bool (decide (m.tmod 3 = 0)))) fun _ => .op (.bin 0 .add (.int .i64 m) (.int .i64 1)) fun k => mBody w (.sl b off len) (.int .i64 i) ss k K).awp P h Q := by
          refine aw_idx_n hi (aw_fads p (aw_st_g hg rfl (by omega) (aw_addn (by omega) (by omega) (ih ss _ _ E R G (m + 1) _ hok hu c1 c2 c3 c4 c5 hbG (by omega) h1 ?_))))
          intro h' E' g1 g2 g3 g4
          exact hk h' (.bool (decide (m.tmod 3 = 0)) :: E') (by rw [g1]; simp) ⟨E', rfl, g2⟩ g3 (c6.trans g4)
        refine aw_eql (fun e => ?_) (fun e => ?_)
        · simpa [e] using key
        · simpa [e] using key
      | s x =>
        cases s <;> simp only [MOk] at hok
        obtain ⟨rfl, ht, hok⟩ := hok
        obtain ⟨E, rfl, r⟩ := r
        have hup := putF_up fs (m + 1) hu
        simp only [putF] at h1 hk
        obtain ⟨c1, c2, c3, c4, c5, c6⟩ := cellStep fs ss _ A E R G m h _ (.str (mtext m)) (.i m) id hg hb hA r o hbG _ rfl
        refine aw_rcall (ht m h h0 (by omega)) ?_
        refine aw_idx_n hi (aw_fads p (aw_st_g hg rfl (by omega) (aw_addn (by omega) (by omega) (ih ss _ _ E R G (m + 1) _ hok hu c1 c2 c3 c4 c5 hbG (by omega) h1 ?_))))
        intro h' E' g1 g2 g3 g4
        exact hk h' (.str (mtext m) :: E') (by rw [g1]; simp) ⟨E', rfl, g2⟩ g3 (c6.trans g4)
      | l c k xs =>
        cases s <;> simp only [MOk] at hok
        obtain ⟨rfl, hm, hok⟩ := hok
        obtain ⟨v, E, F1, F2, rfl, rfl, r1, r2⟩ := r
        obtain ⟨hu1, hu2⟩ := hu
        have hup := putF_up fs (mks m xs).2 hu2
        have hup1 := hu1 m
        simp only [putF] at h1 hk
        have hnd := List.nodup_append.1 o.1
        have o1 : Own n h F1 := ⟨hnd.1, fun x hx => o.2 x (List.mem_append_left _ hx)⟩
        have o2 : Own n h F2 := ⟨hnd.2.1, fun x hx => o.2 x (List.mem_append_right _ hx)⟩
        have hb1 : b ∉ F1 := fun hx => hbG (List.mem_append_left _ hx)
        have hb2 : b ∉ F2 := fun hx => hbG (List.mem_append_right _ hx)
        refine aw_idx_n hi (aw_fads p (aw_ld_g hg (by omega) (aw_call (hm v F1 n m h r1 o1 h0 (by omega)) ?_)))
        rintro _ h2 ⟨rfl, kp, r1', o1'⟩
        have hd : ∀ x ∈ F2, x ∉ F1 := fun x hx hx' => hnd.2.2 x hx' x hx rfl
        have k2 : ∀ x ∈ F2, h2.get x = h.get x := fun x hx => kp.2 x (r2.lt x hx) (hd x hx)
        have hg2 : h2.get b = ⟨(A ++ [v]) ++ (E ++ R), w, 0⟩ := by rw [kp.2 b hb hb1, hg]; simp
        refine ih ss _ (A ++ [v]) E R F2 (mks m xs).2 h2 hok hu2 hg2 (Nat.lt_of_lt_of_le hb kp.1) (by simp; omega) (r2.keep fun x hx => ⟨k2 x hx, Nat.lt_of_lt_of_le (r2.lt x hx) kp.1⟩) (o2.mono (Nat.le_refl _) k2) hb2 (by omega) h1 ?_
        intro h' E' g1 g2 g3 g4
        have lt1 := r1'.lt
        have k3 : ∀ x ∈ F1, h'.get x = h2.get x := fun x hx => g4.2 x (lt1 x hx) (by
          simp only [List.mem_cons, not_or]
          exact ⟨fun e => hb1 (e ▸ hx), fun hx' => hd x hx' hx⟩)
        refine hk h' (v :: E') (by rw [g1]; simp) ⟨v, E', F1, F2, rfl, rfl, r1'.keep fun x hx => ⟨k3 x hx, Nat.lt_of_lt_of_le (lt1 x hx) g4.1⟩, g2⟩ ?_ ?_
        · have o1'' := o1'.mono (Nat.le_refl _) k3
          exact ⟨List.nodup_append.2 ⟨o1''.1, g3.1, hnd.2.2⟩, fun x hx => by
            rcases List.mem_append.1 hx with hx | hx
            · exact o1''.2 x hx
            · exact g3.2 x hx⟩
        · exact (kp.mono fun x hx => by simp [hx]).trans (g4.mono fun x hx => by
            rcases List.mem_cons.1 hx with e | e
            · simp [e]
            · simp [e])

theorem hBody_spec {w b off len i : Nat} {K : AV → Prog} {r0 : AV} (hi : i < len) : ∀ (fs : List FV) (ss : List (List Nat × MKd)) (j : Nat) (E : List AV) (G : List Nat) (m : Int), HOk P ss fs j → UpF fs → At h b (off + i * w + j) E → RepF h (putF m fs).1 E G → 0 ≤ m → (putF m fs).2 ≤ 1099511627776 →
    ((K (.int .i64 (putF m fs).2)).awp P h Q) → (hBody w (.sl b off len) (.int .i64 i) ss (.int .i64 m) K).awp P h Q := by
  intro fs
  induction fs with
  | nil =>
    intro ss j E G m hok _ ha r h0 h1 hk
    cases ss with
    | nil => exact hk
    | cons s ss => simp only [MOk, HOk] at hok
  | cons f fs ih =>
    intro ss j E G m hok hu ha r h0 h1 hk
    cases ss with
    | nil => exact hok.elim
    | cons s ss =>
      obtain ⟨p, s⟩ := s
      cases f with
      | i x =>
        cases s <;> simp only [HOk] at hok
        obtain ⟨rfl, hok⟩ := hok
        have hup := putF_up fs (m + 1) hu
        simp only [putF] at h1 hk r
        obtain ⟨E, rfl, r⟩ := r
        have ha' := ha.drop 1
        refine aw_idx_n hi (aw_fads p (aw_ld1 (by simpa using ha.get (j := 0) rfl) ha.2.1 (aw_neq (fun hne => absurd rfl hne) fun _ => aw_ite_f (aw_addn (by omega) (by omega) (ih ss _ E G (m + 1) hok hu ?_ r (by omega) h1 hk)))))
        simpa [Nat.add_assoc] using ha'
      | b x =>
        cases s <;> simp only [HOk] at hok
        obtain ⟨rfl, hok⟩ := hok
        have hup := putF_up fs (m + 1) hu
        simp only [putF] at h1 hk r
        obtain ⟨E, rfl, r⟩ := r
        have ha' := ha.drop 1
        refine aw_idx_n hi (aw_fads p (aw_ld1 (by simpa using ha.get (j := 0) rfl) ha.2.1 (aw_rem (by decide) (aw_eql (fun e => aw_bneq ?_) (fun e => aw_bneq ?_)))))
        · simp only [e, decide_true, BEq.rfl, Bool.not_true]
          refine aw_ite_f (aw_addn (by omega) (by omega) (ih ss _ E G (m + 1) hok hu ?_ r (by omega) h1 hk))
          simpa [Nat.add_assoc] using ha'
        · simp only [e, decide_false, BEq.rfl, Bool.not_true]
          refine aw_ite_f (aw_addn (by omega) (by omega) (ih ss _ E G (m + 1) hok hu ?_ r (by omega) h1 hk))
          simpa [Nat.add_assoc] using ha'
      | s x =>
        cases s <;> simp only [HOk] at hok
        obtain ⟨rfl, ht, hok⟩ := hok
        have hup := putF_up fs (m + 1) hu
        simp only [putF] at h1 hk r
        obtain ⟨E, rfl, r⟩ := r
        have ha' := ha.drop 1
        refine aw_idx_n hi (aw_fads p (aw_ld1 (by simpa using ha.get (j := 0) rfl) ha.2.1 (aw_rcall (ht m h h0 (by omega)) (aw_chk_ld1 ha (Ext.refl _) rfl (aw_sneq (fun hne => absurd rfl hne) fun _ => aw_ite_f (aw_addn (by omega) (by omega) (ih ss _ E G (m + 1) hok hu ?_ r (by omega) h1 hk)))))))
        simpa [Nat.add_assoc] using ha'
      | l c k xs =>
        cases s <;> simp only [HOk] at hok
        obtain ⟨rfl, hm, hok⟩ := hok
        obtain ⟨hu1, hu2⟩ := hu
        have hup := putF_up fs (mks m xs).2 hu2
        have hup1 := hu1 m
        simp only [putF] at h1 hk r
        obtain ⟨v, E, F1, F2, rfl, rfl, r1, r2⟩ := r
        have ha' := ha.drop 1
        refine aw_idx_n hi (aw_fads p (aw_ld1 (by simpa using ha.get (j := 0) rfl) ha.2.1 (aw_rcall (hm v F1 m h r1 h0 (by omega)) (aw_lss (fun hl => by omega) fun _ => aw_ite_f (ih ss _ E F2 (mks m xs).2 hok hu2 ?_ r2 (by omega) h1 hk)))))
        simpa [Nat.add_assoc] using ha'
end
theorem mks_app {α : Type} [Mk α] : ∀ (l r : List α) (m : Int), (mks m (l ++ r)).2 = (mks (mks m l).2 r).2
  | [], r, m => rfl
  | x :: l, r, m => by simp only [List.cons_append, mks, mks_app l]
section
variable {α : Type} [Cel α] [Mk α] [Fld α]
theorem put_up (m : Int) (x : α) : m ≤ (Mk.put m x).2 := by rw [(Fld.put m x).2]; exact putF_up _ _ (Fld.ups x)
theorem mks_upF : ∀ (xs : List α) (m : Int), m ≤ (mks m xs).2
  | [], m => by simp [mks]
  | x :: xs, m => by
    have := put_up m x
    have := mks_upF xs (Mk.put m x).2
    simp only [mks]; omega
theorem mks_take_le (xs : List α) (m : Int) (i : Nat) : (mks m (xs.take i)).2 ≤ (mks m xs).2 := by
  conv => rhs; rw [← List.take_append_drop i xs, mks_app]
  exact mks_upF _ _
end

section
variable {α : Type} [Cel α] {P : Program} {h : AH}
theorem Reps.split : ∀ {xs : List α} {cs : List AV} {F : List Nat} (_ : Reps h xs cs F) {i : Nat} {x : α}, xs[i]? = some x → ∃ c1 ci c2 G1 Fi G2, cs = c1 ++ (ci ++ c2) ∧ F = G1 ++ (Fi ++ G2) ∧ Reps h (xs.take i) c1 G1 ∧ Cel.rep h x ci Fi ∧ Reps h (xs.drop (i + 1)) c2 G2
  | [], cs, F, r, i, x, hx => by simp at hx
  | y :: xs, cs, F, r, 0, x, hx => by
    simp at hx; subst hx
    obtain ⟨c1, c2, F1, F2, rfl, rfl, r1, r2⟩ := r
    exact ⟨[], c1, c2, [], F1, F2, rfl, rfl, ⟨rfl, rfl⟩, r1, r2⟩
  | y :: xs, cs, F, r, i + 1, x, hx => by
    simp at hx
    obtain ⟨c1, c2, F1, F2, rfl, rfl, r1, r2⟩ := r
    obtain ⟨d1, di, d2, G1, Fi, G2, rfl, rfl, q1, q2, q3⟩ := r2.split hx
    exact ⟨c1 ++ d1, di, d2, F1 ++ G1, Fi, G2, by simp, by simp, ⟨c1, d1, F1, G1, rfl, rfl, r1, q1⟩, q2, q3⟩

theorem SlRep.focus {n : Nat} {v : AV} {ys : List α} {F : List Nat} (r : SlRep h v ys F) (o : Own n h F) {i : Nat} {x : α} (hx : ys[i]? = some x) : ∃ b off A cs R G1 Fi G2, v = .sl b off ys.length ∧ F = b :: (G1 ++ (Fi ++ G2)) ∧ h.get b = ⟨A ++ (cs ++ R), Cel.w α, 0⟩ ∧ b < h.n ∧ A.length = off + i * Cel.w α ∧ Cel.rep h x cs Fi ∧ Own n h Fi ∧ b ∉ Fi ∧
    ∀ h' x' cs', Cel.rep h' x' cs' Fi → h'.get b = ⟨A ++ (cs' ++ R), Cel.w α, 0⟩ → Kp h h' (b :: Fi) → Own n h' Fi → SlRep h' v (ys.set i x') F ∧ Own n h' F := by
  have hi : i < ys.length := (List.getElem?_eq_some_iff.1 hx).1
  rcases r with ⟨rfl, h1, rfl⟩ | ⟨b, off, F', cs0, rfl, rfl, h1, h2, h3, h4, h5, h6, h7⟩
  · omega
  obtain ⟨c1, ci, c2, G1, Fi, G2, rfl, rfl, q1, q2, q3⟩ := h7.split hx
  have hst : (h.get b).st = 0 := (o.2 b (by simp)).2
  have hl1 := q1.length
  rw [List.length_take, Nat.min_eq_left (by omega)] at hl1
  have hli := Cel.len q2
  have hl7 := h7.length
  have hcl : (h.get b).cells = ((h.get b).cells.take off ++ c1) ++ (ci ++ (c2 ++ (h.get b).cells.drop (off + ys.length * Cel.w α))) := by
    have e1 : (h.get b).cells = (h.get b).cells.take off ++ (h.get b).cells.drop off := (List.take_append_drop _ _).symm
    have e2 : (h.get b).cells.drop off = ((h.get b).cells.drop off).take (ys.length * Cel.w α) ++ (h.get b).cells.drop (off + ys.length * Cel.w α) := by
      rw [← List.drop_drop, List.take_append_drop]
    rw [← h6] at e2
    conv => lhs; rw [e1, e2]
    simp only [List.append_assoc]
  have hoff : ((h.get b).cells.take off).length = off := by simp; omega
  have hnd := o.1
  rw [List.nodup_cons, List.nodup_append, List.nodup_append] at hnd
  obtain ⟨nb, n1, ⟨n2, n3, n4⟩, n5⟩ := hnd
  simp only [List.mem_append, not_or] at nb
  have oFi : Own n h Fi := ⟨n2, fun c hc => o.2 c (by simp [hc])⟩
  refine ⟨b, off, (h.get b).cells.take off ++ c1, ci, c2 ++ (h.get b).cells.drop (off + ys.length * Cel.w α), G1, Fi, G2, rfl, rfl, ?_, h1, by rw [List.length_append, hoff, hl1], q2, oFi, nb.2.1, ?_⟩
  · have e : h.get b = ⟨(h.get b).cells, (h.get b).es, (h.get b).st⟩ := rfl
    rw [e, h3, hst]; congr 1
  · intro h' x' cs' r' hg kp o'
    have lt := h7.lt
    have keep1 : ∀ c ∈ G1, h'.get c = h.get c ∧ c < h'.n := fun c hc => ⟨kp.2 c (lt c (by simp [hc])) (by
      simp only [List.mem_cons, not_or]
      exact ⟨fun e => nb.1 (e ▸ hc), fun hc' => n5 c hc c (by simp [hc']) rfl⟩), Nat.lt_of_lt_of_le (lt c (by simp [hc])) kp.1⟩
    have keep2 : ∀ c ∈ G2, h'.get c = h.get c ∧ c < h'.n := fun c hc => ⟨kp.2 c (lt c (by simp [hc])) (by
      simp only [List.mem_cons, not_or]
      exact ⟨fun e => nb.2.2 (e ▸ hc), fun hc' => n4 c hc' c hc rfl⟩), Nat.lt_of_lt_of_le (lt c (by simp [hc])) kp.1⟩
    have hs : ys.set i x' = ys.take i ++ ([x'] ++ ys.drop (i + 1)) := by
      rw [List.set_eq_take_append_cons_drop, if_pos hi]; simp
    have R1 : Reps h' (ys.set i x') (c1 ++ (cs' ++ c2)) (G1 ++ (Fi ++ G2)) := by
      rw [hs]
      exact (q1.keep keep1).append ((reps_one r').append (q3.keep keep2))
    have hli' := Cel.len r'
    have hR := R1.length
    rw [List.length_set] at hR
    refine ⟨.inr ⟨b, off, _, _, by rw [List.length_set], rfl, Nat.lt_of_lt_of_le h1 kp.1, by simp [live, hg], by simp [hg], ?_, by rw [List.length_set]; exact h5, ?_, R1⟩, ?_⟩
    · rw [hg, List.length_set]
      have := congrArg List.length hcl
      simp only [List.length_append, hoff, hli, hli', hl1] at this hR ⊢
      omega
    · rw [hg, List.length_set]
      have e : ((h.get b).cells.take off ++ c1) ++ (cs' ++ (c2 ++ (h.get b).cells.drop (off + ys.length * Cel.w α))) = (h.get b).cells.take off ++ ((c1 ++ (cs' ++ c2)) ++ (h.get b).cells.drop (off + ys.length * Cel.w α)) := by simp only [List.append_assoc]
      simp only [e]
      rw [List.drop_append_of_le_length (by omega), List.drop_of_length_le (by omega), List.nil_append, ← hR, List.take_left]
    · refine ⟨o.1, fun c hc => ?_⟩
      have := o.2 c hc
      refine ⟨this.1, ?_⟩
      rcases List.mem_cons.1 hc with e | hc
      · subst e; rw [hg]
      · rcases List.mem_append.1 hc with hc | hc
        · rw [(keep1 c hc).1]; exact this.2
        · rcases List.mem_append.1 hc with hc | hc
          · exact (o'.2 c hc).2
          · rw [(keep2 c hc).1]; exact this.2
end

section
variable {α : Type} [Cel α] [Mk α] [Fld α] {P : Program} {h : AH}
theorem pMark_spec {w : Nat} (hw : w = Cel.w α) {ss : List (List Nat × MKd)} {xs : List α} (hok : ∀ x ∈ xs, MOk P ss (Fld.f x) 0) {v : AV} {F : List Nat} {n : Nat} {m : Int} (r : SlRep h v xs F) (o : Own n h F) (h0 : 0 ≤ m) (h1 : (mks m xs).2 ≤ 1099511627776) :
    (pMark w ss v (.int .i64 m)).awp P h fun t vs h' => t = 1 ∧ ∃ u, vs = [u] ∧ u = .int .i64 (mks m xs).2 ∧ Kp h h' F ∧ SlRep h' v (mks m xs).1 F ∧ Own n h' F := by
  subst hw
  unfold pMark
  have hsm := r.small
  refine aw_upto xs.length (fun i vs h2 => vs = [.int .i64 (mks m (xs.take i)).2, .int .i64 (i : Int)] ∧ i ≤ xs.length ∧ Kp h h2 F ∧ SlRep h2 v ((mks m (xs.take i)).1 ++ xs.drop i) F ∧ Own n h2 F) ⟨by simp [mks], Nat.zero_le _, Kp.refl _ _, by simpa [mks] using r, o⟩ ?_
  rintro i vs h2 _ ⟨rfl, hi, kp, r2, o2⟩
  have hlen : ((mks m (xs.take i)).1 ++ xs.drop i).length = xs.length := by rw [List.length_append, mks_len]; simp; omega
  refine aw_len r2 ?_
  rw [hlen]
  simp only [g0, g1]
  refine aw_lss (fun hlt => aw_ite_t ?_) (fun hge => aw_ite_f ?_)
  · obtain ⟨x, hx, hd, htk⟩ := drop_step (show i < xs.length by omega)
    have hml : (mks m (xs.take i)).1.length = i := by rw [mks_len]; simp; omega
    have hy : ((mks m (xs.take i)).1 ++ xs.drop i)[i]? = some x := by
      rw [List.getElem?_append_right (by omega), hml, Nat.sub_self, hd]; rfl
    obtain ⟨b, off, A, cs, R, G1, Fi, G2, rfl, rfl, hg, hb, hA, rx, oi, nb, back⟩ := r2.focus o2 hy
    have hn : (mks m (xs.take (i + 1))).2 = (putF (mks m (xs.take i)).2 (Fld.f x)).2 := by rw [htk, mks_snoc]; exact (Fld.put _ x).2
    have hm0 := mks_upF (xs.take i) m
    have hle := mks_take_le xs m (i + 1)
    rw [hlen]
    refine mBody_spec (show i < xs.length by omega) (n := n) (Fld.f x) ss 0 A cs R Fi _ h2 (hok x (List.mem_of_getElem? hx)) (Fld.ups x) hg hb (by simpa using hA) ((Fld.rep _ _ _ _).1 rx) oi nb (by omega) (by omega) ?_
    intro h' E' g1' g2' g3' g4'
    have rx' : Cel.rep h' (Mk.put (mks m (xs.take i)).2 x).1 E' Fi := (Fld.rep _ _ _ _).2 (by rw [(Fld.put _ x).1]; exact g2')
    obtain ⟨q1, q2⟩ := back h' _ E' rx' g1' g4' g3'
    refine aw_inc (by omega) (aw_leaf (aw_nexts ?_))
    refine ⟨by omega, by rw [hn], by omega, kp.trans (g4'.mono fun c hc => by
      rcases List.mem_cons.1 hc with e | e
      · simp [e]
      · simp [e]), ?_, q2⟩
    have : (((mks m (xs.take i)).1 ++ xs.drop i).set i (Mk.put (mks m (xs.take i)).2 x).1) = (mks m (xs.take (i + 1))).1 ++ xs.drop (i + 1) := by
      rw [List.set_append_right _ _ (by omega), hml, Nat.sub_self, hd, htk, mks_snoc]; simp
    rw [this, hlen] at q1
    exact q1
  · have : i = xs.length := by omega
    subst this
    refine aw_leaf (aw_ends (by decide) (aw_tsel_ne (by decide) (aw_tsel_eq (aw_fin1 ⟨rfl, _, rfl, ?_, kp, ?_, o2⟩))))
    · simp only [g0, List.take_length]
    · simpa using r2

theorem pHeld_spec {w : Nat} (hw : w = Cel.w α) {ss : List (List Nat × MKd)} {xs : List α} (hok : ∀ x ∈ xs, HOk P ss (Fld.f x) 0) {v : AV} {F : List Nat} {m : Int} (r : SlRep h v (mks m xs).1 F) (h0 : 0 ≤ m) (h1 : (mks m xs).2 ≤ 1099511627776) :
    (pHeld w ss v (.int .i64 m)).awp P h (Post (.int .i64 (mks m xs).2) h) := by
  subst hw
  unfold pHeld
  have hsm := r.small
  rw [mks_len] at hsm
  refine aw_upto xs.length (fun i vs h2 => vs = [.int .i64 (mks m (xs.take i)).2, .int .i64 (i : Int)] ∧ i ≤ xs.length ∧ h2 = h) ⟨by simp [mks], Nat.zero_le _, rfl⟩ ?_
  rintro i vs h2 _ ⟨rfl, hi, rfl⟩
  refine aw_len r ?_
  rw [mks_len]
  simp only [g0, g1]
  refine aw_lss (fun hlt => aw_ite_t ?_) (fun hge => aw_ite_f ?_)
  · obtain ⟨x, hx, hd, htk⟩ := drop_step (show i < xs.length by omega)
    have hy : (mks m xs).1[i]? = some (Mk.put (mks m (xs.take i)).2 x).1 := by
      have : xs = xs.take i ++ x :: xs.drop (i + 1) := by rw [← hd, List.take_append_drop]
      have hl : (mks m (xs.take i)).1.length = i := by rw [mks_len]; simp; omega
      have ha : (mks m xs).1 = (mks m (xs.take i)).1 ++ (mks (mks m (xs.take i)).2 (x :: xs.drop (i + 1))).1 := by
        have gen : ∀ (l r : List α) (m : Int), (mks m (l ++ r)).1 = (mks m l).1 ++ (mks (mks m l).2 r).1 := by
          intro l
          induction l with
          | nil => intro r m; rfl
          | cons y l ih => intro r m; simp only [List.cons_append, mks, ih]
        conv => lhs; rw [this]
        rw [gen]
      rw [ha, List.getElem?_append_right (by omega), hl, Nat.sub_self]
      simp [mks]
    obtain ⟨b, off, cs, Fi, rfl, ha, rx, _⟩ := r.elem hy
    have hn : (mks m (xs.take (i + 1))).2 = (putF (mks m (xs.take i)).2 (Fld.f x)).2 := by rw [htk, mks_snoc]; exact (Fld.put _ x).2
    have hm0 := mks_upF (xs.take i) m
    have hle := mks_take_le xs m (i + 1)
    have rx' := (Fld.rep _ _ _ _).1 rx
    rw [(Fld.put _ x).1] at rx'
    refine hBody_spec (by rw [mks_len]; omega) (r0 := .un) (Fld.f x) ss 0 cs Fi _ (hok x (List.mem_of_getElem? hx)) (Fld.ups x) (by simpa using ha) rx' (by omega) (by omega) ?_
    exact aw_inc (by omega) (aw_leaf (aw_nexts ⟨by omega, by rw [hn], by omega, rfl⟩))
  · have : i = xs.length := by omega
    subst this
    refine aw_leaf (aw_ends (by decide) (aw_tsel_ne (by decide) (aw_tsel_eq (aw_fin1 ⟨rfl, ?_, Ext.refl _⟩))))
    simp only [g0, List.take_length]
end
end Go.Ab
end
section
/- The values of the program: their sizes, and marks on them. Written by mkty.py. -/
set_option linter.unusedSimpArgs false
set_option linter.unusedVariables false
namespace Go.Ab
open Go.RowKit

class Cnt (α : Type) [Mk α] [Sz α] : Prop where
  cnt : ∀ (m : Int) (x : α), (Mk.put m x).2 ≤ m + 32 * (1 + ((Sz.sz x : Nat) : Int))
theorem mks_cnt32 {α : Type} [Mk α] [Sz α] [Cnt α] : ∀ (xs : List α) (m : Int), (mks m xs).2 ≤ m + 32 * ((xs.length + szs xs : Nat) : Int)
  | [], m => by simp [mks, szs]
  | x :: xs, m => by
    have := Cnt.cnt m x
    have := mks_cnt32 xs (Mk.put m x).2
    simp only [mks, szs, List.length_cons]; omega

instance : Sz Int := ⟨fun _ => 0⟩
instance : Mk Int := ⟨fun m _ => (m, m + 1)⟩
instance : Flat Int where
  toCel := inferInstance
  enc := fun x => [.int .i64 x]
  rep_iff := Iff.rfl
instance : Fld Int where
  f := fun x => [.i x]
  rep := by
    intro h x cs F
    constructor
    · rintro ⟨rfl, rfl⟩; exact ⟨_, rfl, rfl, rfl⟩
    · rintro ⟨_, rfl, rfl, rfl⟩; exact ⟨rfl, rfl⟩
  put := fun m x => ⟨rfl, rfl⟩
  ups := fun x => trivial
instance : Cnt Int := ⟨fun m x => by show m + 1 ≤ _; simp only [Sz.sz]; omega⟩
instance : Flat Verdict where
  toCel := inferInstance
  enc := Verdict.cs
  rep_iff := Iff.rfl
instance {α : Type} [Sz α] : Sz (List α) := ⟨fun xs => xs.length + szs xs⟩
instance {α : Type} [Mk α] : Mk (List α) := ⟨fun m xs => mks m xs⟩
instance {α : Type} [Cel α] [Mk α] [Fld α] : Fld (List α) where
  f := fun x => [.l inferInstance inferInstance x]
  rep := by
    intro h x cs F
    constructor
    · rintro ⟨v, rfl, r⟩; exact ⟨v, _, F, [], rfl, by simp, r, rfl, rfl⟩
    · rintro ⟨v, _, F1, F2, rfl, rfl, r, rfl, rfl⟩; exact ⟨v, rfl, by simpa using r⟩
  put := fun m x => ⟨rfl, rfl⟩
  ups := fun x => ⟨fun m => mks_upF _ m, trivial⟩
instance {α : Type} [Mk α] [Sz α] [Cnt α] : Cnt (List α) := ⟨fun m x => by
  have := mks_cnt32 x m
  show (mks m x).2 ≤ m + 32 * (1 + ((x.length + szs x : Nat) : Int))
  omega⟩

/-! ### Rules -/
mutual
def Pol.szP : Pol → Nat
  | .mk _ _ s t l => s.size + t.size + (l.length + Pol.szsP l)
def Pol.szsP : List Pol → Nat
  | [] => 0
  | p :: ps => Pol.szP p + Pol.szsP ps
end
instance : Sz Pol := ⟨Pol.szP⟩
theorem Pol.szs_eq : ∀ (l : List Pol), szs l = Pol.szsP l
  | [] => rfl
  | p :: ps => by simp only [szs, Pol.szsP, Pol.szs_eq ps]; rfl
theorem Pol.sz_eq (x : Pol) : Sz.sz x = x.key.size + x.text.size + (x.l.length + szs x.l) := by
  cases x with
  | mk k n s t l => rw [Pol.szs_eq]; rfl
mutual
def Pol.putP : Int → Pol → Pol × Int
  | m, .mk _ _ _ _ l => (.mk m (m + 1) (mtext (m + 1 + 1)) (mtext (m + 1 + 1 + 1)) (Pol.putsP (m + 1 + 1 + 1 + 1) l).1, (Pol.putsP (m + 1 + 1 + 1 + 1) l).2)
def Pol.putsP : Int → List Pol → List Pol × Int
  | m, [] => ([], m)
  | m, p :: ps => ((Pol.putP m p).1 :: (Pol.putsP (Pol.putP m p).2 ps).1, (Pol.putsP (Pol.putP m p).2 ps).2)
end
instance : Mk Pol := ⟨Pol.putP⟩
theorem Pol.mks_eq : ∀ (l : List Pol) (m : Int), mks m l = Pol.putsP m l
  | [], m => rfl
  | p :: ps, m => by simp only [mks, Pol.putsP, Pol.mks_eq ps]; rfl
mutual
theorem Pol.up_ : ∀ (x : Pol) (m : Int), m ≤ (Pol.putP m x).2
  | .mk k n s t l, m => by have := Pol.ups_ l (m + 1 + 1 + 1 + 1); simp only [Pol.putP]; omega
theorem Pol.ups_ : ∀ (x : List Pol) (m : Int), m ≤ (Pol.putsP m x).2
  | [], m => by simp [Pol.putsP]
  | p :: ps, m => by have := Pol.up_ p m; have := Pol.ups_ ps (Pol.putP m p).2; simp only [Pol.putsP]; omega
end
instance : Fld Pol where
  f := fun x => [.i x.kind, .i x.n, .s x.key, .s x.text, .l inferInstance inferInstance x.l]
  rep := by
    intro h x cs F
    rw [Pol.rep_iff]
    constructor
    · rintro ⟨v0, rfl, r0⟩; exact ⟨_, rfl, _, rfl, _, rfl, _, rfl, v0, _, F, [], rfl, by simp, r0, rfl, rfl⟩
    · rintro ⟨_, rfl, _, rfl, _, rfl, _, rfl, v0, _, F0, _, rfl, rfl, r0, rfl, rfl⟩; exact ⟨v0, rfl, by simpa using r0⟩
  put := fun m x => by
    cases x with
    | mk k n s t l => simp only [putF, Pol.l, Pol.mks_eq]; exact ⟨rfl, rfl⟩
  ups := fun x => ⟨fun m => by rw [Pol.mks_eq]; exact Pol.ups_ _ _, trivial⟩
mutual
theorem Pol.cnt_ : ∀ (x : Pol) (m : Int), (Pol.putP m x).2 ≤ m + 32 * (1 + ((Pol.szP x : Nat) : Int))
  | .mk k n s t l, m => by have := Pol.cnts_ l (m + 1 + 1 + 1 + 1); simp only [Pol.putP, Pol.szP]; omega
theorem Pol.cnts_ : ∀ (x : List Pol) (m : Int), (Pol.putsP m x).2 ≤ m + 32 * ((x.length + Pol.szsP x : Nat) : Int)
  | [], m => by simp [Pol.putsP, Pol.szsP]
  | p :: ps, m => by have := Pol.cnt_ p m; have := Pol.cnts_ ps (Pol.putP m p).2; simp only [Pol.putsP, Pol.szsP, List.length_cons]; omega
end
instance : Cnt Pol := ⟨fun m x => Pol.cnt_ x m⟩

/-! ### Verdict -/
instance : Sz Verdict := ⟨fun x => 0⟩
instance : Mk Verdict := ⟨fun m x => (⟨m, m + 1, decide ((m + 1 + 1).tmod 3 = 0)⟩, m + 1 + 1 + 1)⟩
instance : Fld Verdict where
  f := fun x => [.i x.trace, .i x.stamp, .b x.keep]
  rep := by
    intro h x cs F
    constructor
    · rintro ⟨rfl, rfl⟩; exact ⟨_, rfl, ⟨_, rfl, ⟨_, rfl, ⟨rfl, rfl⟩⟩⟩⟩
    · rintro ⟨_, rfl, ⟨_, rfl, ⟨_, rfl, ⟨rfl, rfl⟩⟩⟩⟩; exact ⟨rfl, rfl⟩
  put := fun m x => ⟨rfl, rfl⟩
  ups := fun x => trivial
instance : Cnt Verdict := ⟨fun m x => by
  show m + 1 + 1 + 1 ≤ m + 32 * (1 + ((0 : Nat) : Int))
  omega⟩

/-! ### Attr -/
instance : Sz Attr := ⟨fun x => x.key.size + x.text.size⟩
instance : Mk Attr := ⟨fun m x => (⟨mtext (m), decide ((m + 1).tmod 3 = 0), m + 1 + 1, mtext (m + 1 + 1 + 1)⟩, m + 1 + 1 + 1 + 1)⟩
instance : Fld Attr where
  f := fun x => [.s x.key, .b x.num, .i x.n, .s x.text]
  rep := by
    intro h x cs F
    constructor
    · rintro ⟨rfl, rfl⟩; exact ⟨_, rfl, ⟨_, rfl, ⟨_, rfl, ⟨_, rfl, ⟨rfl, rfl⟩⟩⟩⟩⟩
    · rintro ⟨_, rfl, ⟨_, rfl, ⟨_, rfl, ⟨_, rfl, ⟨rfl, rfl⟩⟩⟩⟩⟩; exact ⟨rfl, rfl⟩
  put := fun m x => ⟨rfl, rfl⟩
  ups := fun x => trivial
instance : Cnt Attr := ⟨fun m x => by
  show m + 1 + 1 + 1 + 1 ≤ m + 32 * (1 + ((x.key.size + x.text.size : Nat) : Int))
  omega⟩

/-! ### Span -/
instance : Sz Span := ⟨fun x => (x.attrs.length + szs x.attrs)⟩
instance : Mk Span := ⟨fun m x => (⟨m, m + 1, m + 1 + 1, m + 1 + 1 + 1, decide ((m + 1 + 1 + 1 + 1).tmod 3 = 0), (mks (m + 1 + 1 + 1 + 1 + 1) x.attrs).1⟩, (mks (m + 1 + 1 + 1 + 1 + 1) x.attrs).2)⟩
instance : Fld Span where
  f := fun x => [.i x.trace, .i x.id, .i x.start, .i x.fin, .b x.err, .l inferInstance inferInstance x.attrs]
  rep := by
    intro h x cs F
    constructor
    · rintro ⟨v0, rfl, r0⟩; exact ⟨_, rfl, ⟨_, rfl, ⟨_, rfl, ⟨_, rfl, ⟨_, rfl, ⟨v0, _, F, [], rfl, by simp, r0, ⟨rfl, rfl⟩⟩⟩⟩⟩⟩⟩
    · rintro ⟨_, rfl, ⟨_, rfl, ⟨_, rfl, ⟨_, rfl, ⟨_, rfl, ⟨v0, _, F0, _, rfl, rfl, r0, ⟨rfl, rfl⟩⟩⟩⟩⟩⟩⟩; exact ⟨v0, rfl, by simpa using r0⟩
  put := fun m x => ⟨rfl, rfl⟩
  ups := fun x => ⟨fun m => mks_upF _ m, trivial⟩
instance : Cnt Span := ⟨fun m x => by
  show (mks (m + 1 + 1 + 1 + 1 + 1) x.attrs).2 ≤ m + 32 * (1 + (((x.attrs.length + szs x.attrs) : Nat) : Int))
  have := mks_cnt32 x.attrs (m + 1 + 1 + 1 + 1 + 1)
  omega⟩

/-! ### Timer -/
instance : Sz Timer := ⟨fun x => 0⟩
instance : Mk Timer := ⟨fun m x => (⟨m, m + 1, m + 1 + 1⟩, m + 1 + 1 + 1)⟩
instance : Fld Timer where
  f := fun x => [.i x.id, .i x.trace, .i x.at_]
  rep := by
    intro h x cs F
    constructor
    · rintro ⟨rfl, rfl⟩; exact ⟨_, rfl, ⟨_, rfl, ⟨_, rfl, ⟨rfl, rfl⟩⟩⟩⟩
    · rintro ⟨_, rfl, ⟨_, rfl, ⟨_, rfl, ⟨rfl, rfl⟩⟩⟩⟩; exact ⟨rfl, rfl⟩
  put := fun m x => ⟨rfl, rfl⟩
  ups := fun x => trivial
instance : Cnt Timer := ⟨fun m x => by
  show m + 1 + 1 + 1 ≤ m + 32 * (1 + ((0 : Nat) : Int))
  omega⟩

/-! ### Trail -/
instance : Sz Trail := ⟨fun x => (x.spans.length + szs x.spans)⟩
instance : Mk Trail := ⟨fun m x => (⟨m, m + 1, m + 1 + 1, (mks (m + 1 + 1 + 1) x.spans).1⟩, (mks (m + 1 + 1 + 1) x.spans).2)⟩
instance : Fld Trail where
  f := fun x => [.i x.id, .i x.stamp, .i x.first, .l inferInstance inferInstance x.spans]
  rep := by
    intro h x cs F
    constructor
    · rintro ⟨v0, rfl, r0⟩; exact ⟨_, rfl, ⟨_, rfl, ⟨_, rfl, ⟨v0, _, F, [], rfl, by simp, r0, ⟨rfl, rfl⟩⟩⟩⟩⟩
    · rintro ⟨_, rfl, ⟨_, rfl, ⟨_, rfl, ⟨v0, _, F0, _, rfl, rfl, r0, ⟨rfl, rfl⟩⟩⟩⟩⟩; exact ⟨v0, rfl, by simpa using r0⟩
  put := fun m x => ⟨rfl, rfl⟩
  ups := fun x => ⟨fun m => mks_upF _ m, trivial⟩
instance : Cnt Trail := ⟨fun m x => by
  show (mks (m + 1 + 1 + 1) x.spans).2 ≤ m + 32 * (1 + (((x.spans.length + szs x.spans) : Nat) : Int))
  have := mks_cnt32 x.spans (m + 1 + 1 + 1)
  omega⟩

/-! ### Stripe -/
instance : Sz Stripe := ⟨fun x => (x.l.length + szs x.l)⟩
instance : Mk Stripe := ⟨fun m x => (⟨m, (mks (m + 1) x.l).1⟩, (mks (m + 1) x.l).2)⟩
instance : Fld Stripe where
  f := fun x => [.i x.held, .l inferInstance inferInstance x.l]
  rep := by
    intro h x cs F
    constructor
    · rintro ⟨v0, rfl, r0⟩; exact ⟨_, rfl, ⟨v0, _, F, [], rfl, by simp, r0, ⟨rfl, rfl⟩⟩⟩
    · rintro ⟨_, rfl, ⟨v0, _, F0, _, rfl, rfl, r0, ⟨rfl, rfl⟩⟩⟩; exact ⟨v0, rfl, by simpa using r0⟩
  put := fun m x => ⟨rfl, rfl⟩
  ups := fun x => ⟨fun m => mks_upF _ m, trivial⟩
instance : Cnt Stripe := ⟨fun m x => by
  show (mks (m + 1) x.l).2 ≤ m + 32 * (1 + (((x.l.length + szs x.l) : Nat) : Int))
  have := mks_cnt32 x.l (m + 1)
  omega⟩

/-! ### Itm -/
instance : Sz Itm := ⟨fun x => Sz.sz x.s⟩
instance : Mk Itm := ⟨fun m x => (⟨m, ⟨m + 1, m + 1 + 1, m + 1 + 1 + 1, m + 1 + 1 + 1 + 1, decide ((m + 1 + 1 + 1 + 1 + 1).tmod 3 = 0), (mks (m + 1 + 1 + 1 + 1 + 1 + 1) x.s.attrs).1⟩⟩, (mks (m + 1 + 1 + 1 + 1 + 1 + 1) x.s.attrs).2)⟩
instance : Fld Itm where
  f := fun x => [.i x.stamp, .i x.s.trace, .i x.s.id, .i x.s.start, .i x.s.fin, .b x.s.err, .l inferInstance inferInstance x.s.attrs]
  rep := by
    intro h x cs F
    constructor
    · rintro ⟨v0, rfl, r0⟩; exact ⟨_, rfl, ⟨_, rfl, ⟨_, rfl, ⟨_, rfl, ⟨_, rfl, ⟨_, rfl, ⟨v0, _, F, [], rfl, by simp, r0, ⟨rfl, rfl⟩⟩⟩⟩⟩⟩⟩⟩
    · rintro ⟨_, rfl, ⟨_, rfl, ⟨_, rfl, ⟨_, rfl, ⟨_, rfl, ⟨_, rfl, ⟨v0, _, F0, _, rfl, rfl, r0, ⟨rfl, rfl⟩⟩⟩⟩⟩⟩⟩⟩; exact ⟨v0, rfl, by simpa using r0⟩
  put := fun m x => ⟨rfl, rfl⟩
  ups := fun x => ⟨fun m => mks_upF _ m, trivial⟩
instance : Cnt Itm := ⟨fun m x => by
  show (mks (m + 1 + 1 + 1 + 1 + 1 + 1) x.s.attrs).2 ≤ m + 32 * (1 + ((Sz.sz x.s : Nat) : Int))
  have := mks_cnt32 x.s.attrs (m + 1 + 1 + 1 + 1 + 1 + 1)
  have e_s : Sz.sz x.s = (x.s.attrs.length + szs x.s.attrs) := rfl
  omega⟩

/-! ### Task -/
instance : Sz Task := ⟨fun x => Sz.sz x.s + (x.hand.length + szs x.hand)⟩
instance : Mk Task := ⟨fun m x => (⟨m, m + 1, ⟨m + 1 + 1, m + 1 + 1 + 1, m + 1 + 1 + 1 + 1, m + 1 + 1 + 1 + 1 + 1, decide ((m + 1 + 1 + 1 + 1 + 1 + 1).tmod 3 = 0), (mks (m + 1 + 1 + 1 + 1 + 1 + 1 + 1) x.s.attrs).1⟩, (mks (m + 1 + 1 + 1 + 1 + 1 + 1 + 1) x.s.attrs).2, (mks (m + 1 + 1 + 1 + 1 + 1 + 1 + 1) x.s.attrs).2 + 1, (mks ((mks (m + 1 + 1 + 1 + 1 + 1 + 1 + 1) x.s.attrs).2 + 1 + 1) x.hand).1, (mks ((mks (m + 1 + 1 + 1 + 1 + 1 + 1 + 1) x.s.attrs).2 + 1 + 1) x.hand).2⟩, (mks ((mks (m + 1 + 1 + 1 + 1 + 1 + 1 + 1) x.s.attrs).2 + 1 + 1) x.hand).2 + 1)⟩
instance : Fld Task where
  f := fun x => [.i x.op, .i x.pc, .i x.s.trace, .i x.s.id, .i x.s.start, .i x.s.fin, .b x.s.err, .l inferInstance inferInstance x.s.attrs, .i x.trace, .i x.stamp, .l inferInstance inferInstance x.hand, .i x.h]
  rep := by
    intro h x cs F
    constructor
    · rintro ⟨v0, v1, F0, F1, rfl, rfl, r0, r1⟩; exact ⟨_, rfl, ⟨_, rfl, ⟨_, rfl, ⟨_, rfl, ⟨_, rfl, ⟨_, rfl, ⟨_, rfl, ⟨v0, _, F0, F1 ++ [], rfl, by simp, r0, ⟨_, rfl, ⟨_, rfl, ⟨v1, _, F1, [], rfl, by simp, r1, ⟨_, rfl, ⟨rfl, rfl⟩⟩⟩⟩⟩⟩⟩⟩⟩⟩⟩⟩⟩
    · rintro ⟨_, rfl, ⟨_, rfl, ⟨_, rfl, ⟨_, rfl, ⟨_, rfl, ⟨_, rfl, ⟨_, rfl, ⟨v0, _, F0, _, rfl, rfl, r0, ⟨_, rfl, ⟨_, rfl, ⟨v1, _, F1, _, rfl, rfl, r1, ⟨_, rfl, ⟨rfl, rfl⟩⟩⟩⟩⟩⟩⟩⟩⟩⟩⟩⟩⟩; exact ⟨v0, v1, F0, F1, rfl, by simp, r0, r1⟩
  put := fun m x => ⟨rfl, rfl⟩
  ups := fun x => ⟨fun m => mks_upF _ m, ⟨fun m => mks_upF _ m, trivial⟩⟩
instance : Cnt Task := ⟨fun m x => by
  show (mks ((mks (m + 1 + 1 + 1 + 1 + 1 + 1 + 1) x.s.attrs).2 + 1 + 1) x.hand).2 + 1 ≤ m + 32 * (1 + ((Sz.sz x.s + (x.hand.length + szs x.hand) : Nat) : Int))
  have := mks_cnt32 x.s.attrs (m + 1 + 1 + 1 + 1 + 1 + 1 + 1)
  have := mks_cnt32 x.hand ((mks (m + 1 + 1 + 1 + 1 + 1 + 1 + 1) x.s.attrs).2 + 1 + 1)
  have e_s : Sz.sz x.s = (x.s.attrs.length + szs x.s.attrs) := rfl
  omega⟩

/-! ### Deed -/
instance : Sz Deed := ⟨fun x => Sz.sz x.s⟩
instance : Mk Deed := ⟨fun m x => (⟨m, m + 1, ⟨m + 1 + 1, m + 1 + 1 + 1, m + 1 + 1 + 1 + 1, m + 1 + 1 + 1 + 1 + 1, decide ((m + 1 + 1 + 1 + 1 + 1 + 1).tmod 3 = 0), (mks (m + 1 + 1 + 1 + 1 + 1 + 1 + 1) x.s.attrs).1⟩, (mks (m + 1 + 1 + 1 + 1 + 1 + 1 + 1) x.s.attrs).2, (mks (m + 1 + 1 + 1 + 1 + 1 + 1 + 1) x.s.attrs).2 + 1, (mks (m + 1 + 1 + 1 + 1 + 1 + 1 + 1) x.s.attrs).2 + 1 + 1, decide (((mks (m + 1 + 1 + 1 + 1 + 1 + 1 + 1) x.s.attrs).2 + 1 + 1 + 1).tmod 3 = 0), decide (((mks (m + 1 + 1 + 1 + 1 + 1 + 1 + 1) x.s.attrs).2 + 1 + 1 + 1 + 1).tmod 3 = 0), (mks (m + 1 + 1 + 1 + 1 + 1 + 1 + 1) x.s.attrs).2 + 1 + 1 + 1 + 1 + 1, (mks (m + 1 + 1 + 1 + 1 + 1 + 1 + 1) x.s.attrs).2 + 1 + 1 + 1 + 1 + 1 + 1, (mks (m + 1 + 1 + 1 + 1 + 1 + 1 + 1) x.s.attrs).2 + 1 + 1 + 1 + 1 + 1 + 1 + 1, (mks (m + 1 + 1 + 1 + 1 + 1 + 1 + 1) x.s.attrs).2 + 1 + 1 + 1 + 1 + 1 + 1 + 1 + 1, (mks (m + 1 + 1 + 1 + 1 + 1 + 1 + 1) x.s.attrs).2 + 1 + 1 + 1 + 1 + 1 + 1 + 1 + 1 + 1, (mks (m + 1 + 1 + 1 + 1 + 1 + 1 + 1) x.s.attrs).2 + 1 + 1 + 1 + 1 + 1 + 1 + 1 + 1 + 1 + 1, (mks (m + 1 + 1 + 1 + 1 + 1 + 1 + 1) x.s.attrs).2 + 1 + 1 + 1 + 1 + 1 + 1 + 1 + 1 + 1 + 1 + 1⟩, (mks (m + 1 + 1 + 1 + 1 + 1 + 1 + 1) x.s.attrs).2 + 1 + 1 + 1 + 1 + 1 + 1 + 1 + 1 + 1 + 1 + 1 + 1)⟩
instance : Fld Deed where
  f := fun x => [.i x.op, .i x.task, .i x.s.trace, .i x.s.id, .i x.s.start, .i x.s.fin, .b x.s.err, .l inferInstance inferInstance x.s.attrs, .i x.trace, .i x.stamp, .i x.code, .b x.keep, .b x.void, .i x.took, .i x.n, .i x.forgot, .i x.now, .i x.inv, .i x.lin, .i x.res]
  rep := by
    intro h x cs F
    constructor
    · rintro ⟨v0, rfl, r0⟩; exact ⟨_, rfl, ⟨_, rfl, ⟨_, rfl, ⟨_, rfl, ⟨_, rfl, ⟨_, rfl, ⟨_, rfl, ⟨v0, _, F, [], rfl, by simp, r0, ⟨_, rfl, ⟨_, rfl, ⟨_, rfl, ⟨_, rfl, ⟨_, rfl, ⟨_, rfl, ⟨_, rfl, ⟨_, rfl, ⟨_, rfl, ⟨_, rfl, ⟨_, rfl, ⟨_, rfl, ⟨rfl, rfl⟩⟩⟩⟩⟩⟩⟩⟩⟩⟩⟩⟩⟩⟩⟩⟩⟩⟩⟩⟩⟩
    · rintro ⟨_, rfl, ⟨_, rfl, ⟨_, rfl, ⟨_, rfl, ⟨_, rfl, ⟨_, rfl, ⟨_, rfl, ⟨v0, _, F0, _, rfl, rfl, r0, ⟨_, rfl, ⟨_, rfl, ⟨_, rfl, ⟨_, rfl, ⟨_, rfl, ⟨_, rfl, ⟨_, rfl, ⟨_, rfl, ⟨_, rfl, ⟨_, rfl, ⟨_, rfl, ⟨_, rfl, ⟨rfl, rfl⟩⟩⟩⟩⟩⟩⟩⟩⟩⟩⟩⟩⟩⟩⟩⟩⟩⟩⟩⟩⟩; exact ⟨v0, rfl, by simpa using r0⟩
  put := fun m x => ⟨rfl, rfl⟩
  ups := fun x => ⟨fun m => mks_upF _ m, trivial⟩
instance : Cnt Deed := ⟨fun m x => by
  show (mks (m + 1 + 1 + 1 + 1 + 1 + 1 + 1) x.s.attrs).2 + 1 + 1 + 1 + 1 + 1 + 1 + 1 + 1 + 1 + 1 + 1 + 1 ≤ m + 32 * (1 + ((Sz.sz x.s : Nat) : Int))
  have := mks_cnt32 x.s.attrs (m + 1 + 1 + 1 + 1 + 1 + 1 + 1)
  have e_s : Sz.sz x.s = (x.s.attrs.length + szs x.s.attrs) := rfl
  omega⟩
instance : Sz Bucket := ⟨fun x => 0⟩
instance : Sz Wheel := ⟨fun x => (x.near.length + szs x.near) + (x.far.length + szs x.far) + (x.rest.length + szs x.rest)⟩
instance : Sz Conf := ⟨fun x => Sz.sz x.rule⟩
instance : Sz Wld := ⟨fun x => Sz.sz x.c + (x.st.length + szs x.st) + (x.cache.length + szs x.cache) + Sz.sz x.w + (x.due.length + szs x.due) + (x.queue.length + szs x.queue) + (x.out.length + szs x.out) + (x.tasks.length + szs x.tasks) + (x.deeds.length + szs x.deeds)⟩
end Go.Ab
end
section
/- More steps; ends of readers. -/
set_option linter.unusedSimpArgs false
set_option linter.unusedVariables false
namespace Go.Ab
open Go.RowKit

section
variable {h h' : AH}
theorem pv {a b : AV} (e : a = b) (x : Ext h h' := by exact ext_auto) : (1 : Nat) = 1 ∧ [a] = [b] ∧ Ext h h' := ⟨rfl, by rw [e], x⟩
theorem pb {a b : Bool} (e : a = b) (x : Ext h h' := by exact ext_auto) : (1 : Nat) = 1 ∧ [AV.bool a] = [AV.bool b] ∧ Ext h h' := ⟨rfl, by rw [e], x⟩
theorem pi {a b : Int} {q : IntKind} (e : a = b) (x : Ext h h' := by exact ext_auto) : (1 : Nat) = 1 ∧ [AV.int q a] = [AV.int q b] ∧ Ext h h' := ⟨rfl, by rw [e], x⟩
theorem pt {p : Prop} (e : p) (x : Ext h h' := by exact ext_auto) : (1 : Nat) = 1 ∧ [AV.bool true] = [AV.bool (bp p)] ∧ Ext h h' := ⟨rfl, by rw [bp_t e], x⟩
theorem pf {p : Prop} (e : ¬ p) (x : Ext h h' := by exact ext_auto) : (1 : Nat) = 1 ∧ [AV.bool false] = [AV.bool (bp p)] ∧ Ext h h' := ⟨rfl, by rw [bp_f e], x⟩
end

theorem bp_eq {p : Prop} {b : Bool} (h : b = true ↔ p) : b = bp p := by
  by_cases hp : p
  · rw [bp_t hp]; exact h.2 hp
  · rw [bp_f hp]; cases b
    · rfl
    · exact absurd (h.1 rfl) hp
theorem bp_true {p : Prop} (h : bp p = true) : p := bp_iff.1 h
theorem bp_false {p : Prop} (h : bp p = false) : ¬ p := fun hp => by rw [bp_t hp] at h; cases h

/-! ### What holds of all so far -/
section
variable {α : Type} {xs : List α} {p : Nat → α → Prop} {i : Nat} {y : α}
def Upto (xs : List α) (p : Nat → α → Prop) (i : Nat) : Prop := ∀ (j : Nat) (x : α), j < i → xs[j]? = some x → p j x
theorem up0 : Upto xs p 0 := fun j x hj => by omega
theorem upS (h : Upto xs p i) (hy : xs[i]? = some y) (hp : p i y) : Upto xs p (i + 1) := fun j x hj hx => by
  by_cases e : j = i
  · subst e; rw [hy] at hx; cases hx; exact hp
  · exact h j x (by omega) hx
theorem upAll {p : α → Prop} (h : Upto xs (fun _ => p) xs.length) : ∀ x ∈ xs, p x := fun x hx => by
  obtain ⟨j, hj, e⟩ := List.getElem_of_mem hx
  exact h j x hj (by rw [List.getElem?_eq_getElem hj, e])
theorem upEnd (h : Upto xs p xs.length) : ∀ j x, xs[j]? = some x → p j x := fun j x hx => h j x (List.getElem?_eq_some_iff.1 hx).1 hx
theorem upNot {p : α → Prop} (hy : xs[i]? = some y) (hp : ¬ p y) : ¬ ∀ x ∈ xs, p x := fun h => hp (h y (List.mem_of_getElem? hy))
end

section
variable {α : Type} [Cel α] {P : Program} {h h0 : AH} {Q : Nat → List AV → AH → Prop} {k : AV → Prog}
theorem ixg {v : AV} {xs : List α} {F : List Nat} {es i : Nat} {q : IntKind} (hk : ∀ x, xs[i]? = some x → ∀ b o cs Fi, At h0 b o cs → Cel.rep h0 x cs Fi → (∀ y ∈ Fi, y ∈ F) → (k (.ptr b o)).awp P h Q) (r : SlRep h0 v xs F := by assumption) (hi : i < xs.length := by omega) (hw : es = Cel.w α := by rfl) : (Prog.op (.idx es v (.int q i)) k).awp P h Q :=
  aw_idx r (List.getElem?_eq_getElem hi) hw (hk _ (List.getElem?_eq_getElem hi))
theorem ixgi {v : AV} {xs : List α} {F : List Nat} {es : Nat} {i : Int} {q : IntKind} (hk : ∀ x, xs[i.toNat]? = some x → ∀ b o cs Fi, At h0 b o cs → Cel.rep h0 x cs Fi → (∀ y ∈ Fi, y ∈ F) → (k (.ptr b o)).awp P h Q) (r : SlRep h0 v xs F := by assumption) (h1 : 0 ≤ i := by omega) (hi : i.toNat < xs.length := by omega) (hw : es = Cel.w α := by rfl) : (Prog.op (.idx es v (.int q i)) k).awp P h Q :=
  aw_idxi r h1 (List.getElem?_eq_getElem hi) hw (hk _ (List.getElem?_eq_getElem hi))
end

section
variable {P : Program} {h : AH} {Q : Nat → List AV → AH → Prop} {k : AV → Prog}
theorem g_awp {p : Prog} (x' : p.awp P h Q) : p.awp P h Q := x'
theorem g_callf (f : FuncId) {l : List AV} (x' : (Prog.op (.call f l) k).awp P h Q) : (Prog.op (.call f l) k).awp P h Q := x'
end

/-! ### Strings -/
def bys (s : ByteArray) : List UInt8 := s.data.toList
theorem bys_len (s : ByteArray) : (bys s).length = s.size := by show s.data.toList.length = s.data.size; simp
theorem bys_get (s : ByteArray) (i : Nat) : s[i]? = (bys s)[i]? := by
  unfold bys
  rw [Array.getElem?_toList]
  by_cases h : i < s.size
  · rw [getElem?_pos s i h, Array.getElem?_eq_getElem (by simpa using h)]; rfl
  · rw [getElem?_neg s i h, Array.getElem?_eq_none (by simpa using h)]
section
variable {P : Program} {h : AH} {Q : Nat → List AV → AH → Prop} {k : AV → Prog}
theorem sx {s : ByteArray} {i : Nat} {q : IntKind} (hk : ∀ c : UInt8, (bys s)[i]? = some c → (k (.int .u8 (c.toNat : Int))).awp P h Q) (hi : i < s.size := by omega) : (Prog.op (.sidx (.str s) (.int q i)) k).awp P h Q := by
  have hb := bys_len s
  simp only [Prog.awp, AOp.go]
  refine ⟨Int.natCast_nonneg _, (bys s)[i]'(by omega), ?_, hk _ (List.getElem?_eq_getElem (by omega))⟩
  rw [Int.toNat_natCast, bys_get]
  exact List.getElem?_eq_getElem (by omega)
theorem sx1 {s : ByteArray} {i : Nat} {q : IntKind} {c : UInt8} (hc : (bys s)[i]? = some c) (hk : (k (.int .u8 (c.toNat : Int))).awp P h Q) : (Prog.op (.sidx (.str s) (.int q i)) k).awp P h Q := by
  simp only [Prog.awp, AOp.go]
  refine ⟨Int.natCast_nonneg _, c, ?_, hk⟩
  rw [Int.toNat_natCast, bys_get]; exact hc
theorem w_conv8 {c : UInt8} (hk : (k (.int .i64 (c.toNat : Int))).awp P h Q) : (Prog.op (.conv .i64 (.int .u8 (c.toNat : Int))) k).awp P h Q := by
  have hc := c.toNat_lt
  refine aw_conv ?_
  rw [wrap_id (by omega) (by omega)]; exact hk
theorem w_sgeq {a b : ByteArray} (hk : (k (.bool (!(Op.bytesLess a.toList b.toList)))).awp P h Q) : (Prog.op (.bin 1 .geq (.str a) (.str b)) k).awp P h Q := hk
theorem w_seqS {a : ByteArray} (hk : (k (.bool false)).awp P h Q) : (Prog.op (.bin 1 .neq (.str a) (.str a)) k).awp P h Q := aw_sneq (fun h => absurd rfl h) fun _ => hk
theorem w_ineqS {q : IntKind} {a : Int} (hk : (k (.bool false)).awp P h Q) : (Prog.op (.bin 0 .neq (.int q a) (.int q a)) k).awp P h Q := aw_neq (fun h => absurd rfl h) fun _ => hk
theorem w_bneqS {a : Bool} (hk : (k (.bool false)).awp P h Q) : (Prog.op (.bin 2 .neq (.bool a) (.bool a)) k).awp P h Q := aw_bneq (by simpa using hk)
theorem w_max {a b : Int} (hk : (k (.int .i64 (max a b))).awp P h Q) : (Prog.op (.mnx false [.int .i64 a, .int .i64 b]) k).awp P h Q := by
  simp only [Prog.awp, AOp.go, amnx, amnxGo]
  have : (if a < b then b else a) = max a b := by split <;> omega
  rw [if_neg (by decide), this]; exact hk
theorem w_min {a b : Int} (hk : (k (.int .i64 (min a b))).awp P h Q) : (Prog.op (.mnx true [.int .i64 a, .int .i64 b]) k).awp P h Q := by
  simp only [Prog.awp, AOp.go, amnx, amnxGo]
  have : (if b < a then b else a) = min a b := by split <;> omega
  rw [if_pos trivial, this]; exact hk
theorem aw_sz {f : FuncId} {args : List AV} {b : Int} {s : Nat} (c : RCalls P f args h (.int .i64 (szr b s))) (h1 : ¬ (s : Int) ≤ b → (k (.int .i64 (-1))).awp P h Q) (h2 : (s : Int) ≤ b → (k (.int .i64 (b - s))).awp P h Q) : (Prog.op (.call f args) k).awp P h Q := by
  refine aw_rcall c ?_
  unfold szr
  split
  · rename_i e; exact h2 e
  · rename_i e; exact h1 e
end
end Go.Ab
end
section
/- What copies, compares and counts values: the forms. -/
set_option linter.unusedSimpArgs false
set_option linter.unusedVariables false
namespace Go.Ab
open Go.RowKit

theorem szs_mem {α : Type} [Sz α] : ∀ {xs : List α} {x : α}, x ∈ xs → Sz.sz x ≤ szs xs
  | y :: xs, x, h => by
    rcases List.mem_cons.1 h with e | e
    · subst e; simp [szs]
    · have := szs_mem e; simp only [szs]; omega
theorem szs_zero {α : Type} [Sz α] (hz : ∀ x : α, Sz.sz x = 0) : ∀ xs : List α, szs xs = 0
  | [] => rfl
  | x :: xs => by simp only [szs, hz, szs_zero hz xs]

section
variable {h : AH} {n m : Nat} {F G : List Nat}
theorem own_l (o : Own n h (F ++ G)) : Own n h F := ⟨(List.nodup_append.1 o.1).1, fun b hb => o.2 b (List.mem_append_left _ hb)⟩
theorem own_r (o : Own n h (F ++ G)) : Own n h G := ⟨(List.nodup_append.1 o.1).2.1, fun b hb => o.2 b (List.mem_append_right _ hb)⟩
theorem own_d (o : Own n h (F ++ G)) : ∀ c ∈ F, c ∉ G := fun c h1 h2 => (List.nodup_append.1 o.1).2.2 c h1 c h2 rfl
theorem own_app (o : Own n h F) (p : Own m h G) (hn : n ≤ m) (d : ∀ c ∈ F, c ∉ G) : Own n h (F ++ G) :=
  ⟨List.nodup_append.2 ⟨o.1, p.1, fun a ha b hb e => d a ha (e ▸ hb)⟩, fun b hb => by
    rcases List.mem_append.1 hb with hb | hb
    · exact o.2 b hb
    · exact ⟨Nat.le_trans hn (p.2 b hb).1, (p.2 b hb).2⟩⟩
end

theorem ol_app2 {h : AH} {n : Nat} {F G : List Nat} (r : OwnL n h F) (r' : OwnL n h G) (d : ∀ c ∈ F, c ∉ G) : OwnL n h (F ++ G) := ol_app r r' (Nat.le_refl _) d
theorem oll_auto {n : Nat} {h : AH} {F : List Nat} (r : OwnL n h F := by (repeat (first | exact ol_nil | exact ol_mk (by assumption) (by assumption) om_auto | with_reducible apply ol_push1 | with_reducible apply ol_upd1 | ((with_reducible apply ol_ext1); assumption) | ((with_reducible apply ol_kp1); assumption) | exact nin_auto | exact dis_auto))) : OwnL n h F := r
def CopyL {α : Type} [Cel α] (P : Program) (c : FuncId) (xs : List α) : Prop := ∀ (v : AV) (F : List Nat) (h : AH), SlRep h v xs F → ACalls P c [v] h fun u h' => Ext h h' ∧ ∃ F', SlRep h' u xs F' ∧ Own h.n h' F'
theorem copyL_of {α : Type} [Cel α] [Sz α] {P : Program} {c e w bytes : Nat} {zero : List AV} (hw : w = Cel.w α) (hz : zero.length = w) (hb : bytes ≤ 67108864) {xs : List α} (hs : xs.length + szs xs ≤ 1048576)
    (hc : ∀ x : α, Sz.sz x ≤ 1048576 → CopyX α P e x) (run : ∀ {h : AH} {v : AV} {R : AV → AH → Prop}, ((pToS w bytes zero e v).awp P h fun t vs h' => t = 1 ∧ ∃ u, vs = [u] ∧ R u h') → ACalls P c [v] h R) : CopyL P c xs := by
  intro v F h r
  refine run (toSx_spec hw hz rfl (fun x hx => hc x (by have := szs_mem hx; omega)) r ?_)
  have : xs.length * bytes ≤ 1048576 * bytes := Nat.mul_le_mul_right _ (by omega)
  omega
theorem copy_r {α : Type} [Cel α] [Sz α] {P : Program} {f : FuncId} (c : ∀ xs : List α, xs.length + szs xs ≤ 1048576 → CopyL P f xs) {xs : List α} {v : AV} {F : List Nat} {h : AH} (r : SlRep h v xs F) (hs : xs.length + szs xs ≤ 1048576) : ACalls P f [v] h fun u h' => Ext h h' ∧ ∃ F', SlRep h' u xs F' ∧ Own h.n h' F' := c xs hs v F h r
def SzL (α : Type) [Cel α] [Sz α] (P : Program) (c : FuncId) : Prop := ∀ (xs : List α) (_ : ∀ x ∈ xs, Cel.ok x) (v : AV) (F : List Nat) (b : Int) (h : AH), SlRep h v xs F → 0 ≤ b → b ≤ 1048576 → RCalls P c [v, .int .i64 b] h (.int .i64 (szr b (xs.length + szs xs)))
theorem szl {α : Type} [Cel α] [Sz α] {P : Program} {f : FuncId} (c : SzL α P f) {xs : List α} {v : AV} {F : List Nat} {b : Int} {h : AH} (r : SlRep h v xs F) (ok : ∀ x ∈ xs, Cel.ok x) (h0 : 0 ≤ b) (h1 : b ≤ 1048576) : RCalls P f [v, .int .i64 b] h (.int .i64 (szr b (xs.length + szs xs))) := c xs ok v F b h r h0 h1
end Go.Ab
end
section
/- Equality of lists, by a function. -/
set_option linter.unusedSimpArgs false
set_option linter.unusedVariables false
namespace Go.Ab
open Go.RowKit

def EqUp {α : Type} (xs ys : List α) (i : Nat) : Prop := ∀ (j : Nat) (x y : α), j < i → xs[j]? = some x → ys[j]? = some y → x = y
section
variable {α : Type} {xs ys : List α} {i : Nat} {x y : α}
theorem eu0 : EqUp xs ys 0 := fun j x y hj => by omega
theorem euS (h : EqUp xs ys i) (hx : xs[i]? = some x) (hy : ys[i]? = some y) (e : x = y) : EqUp xs ys (i + 1) := fun j u w hj hu hw => by
  by_cases e' : j = i
  · subst e'; rw [hx] at hu; rw [hy] at hw; cases hu; cases hw; exact e
  · exact h j u w (by omega) hu hw
theorem euEnd (h : EqUp xs ys xs.length) (hl : xs.length = ys.length) : xs = ys := by
  apply List.ext_getElem hl
  intro j h1 h2
  exact h j _ _ h1 (List.getElem?_eq_getElem h1) (List.getElem?_eq_getElem h2)
theorem euNot (hx : xs[i]? = some x) (hy : ys[i]? = some y) (e : ¬ x = y) : ¬ xs = ys := fun k => by
  subst k; rw [hx] at hy; cases hy; exact e rfl
end

def pEqF (w : Nat) (zero : List AV) (x0 x1 x2 : AV) : Prog := .op (.len 0 x0) fun v => .op (.len 0 x1) fun v_1 => .op (.bin 0 .neq v v_1) fun v => .ite v (.fin [.val (AV.bool false)]) (.op (.len 0 x0) fun v => .loop [AV.int .i64 0] (fun vs => .op (.bin 0 .lss (g vs 0) v) fun v => .ite v (.op (.idx w x0 (g vs 0)) fun v => .op (.ldn w v) fun v => .op (.alloc zero) fun v_2 => .op (.st w v_2 v) fun v => .op (.idx w x1 (g vs 0)) fun v => .op (.ldn w v) fun v => .op (.alloc zero) fun v_3 => .op (.st w v_3 v) fun v => .op (.ldn w v_2) fun v => .op (.ldn w v_3) fun v_4 => .op (.callv x2 [v, v_4]) fun v => .op (.una .not v) fun v => .ite v (.fin [.val (AV.bool false)]) (.op (.bin 0 .add (g vs 0) (AV.int .i64 1)) fun v => .leaf 0 [v])) (.leaf 2 [g vs 0])) fun t vs => tsel t 1 (.leaf 1 vs) (tsel t 2 (.fin [.val (AV.bool true)]) .bad))

theorem splice_all {zero cs : List AV} (h : zero.length = cs.length) : splice zero 0 cs = cs := by
  unfold splice; rw [List.drop_of_length_le (by omega)]; simp

section
variable {α : Type} [Cel α] {P : Program} {h : AH}
theorem eqF_spec {w : Nat} {zero : List AV} (hw : w = Cel.w α) (hz : zero.length = w) {xs ys : List α} {v0 v1 : AV} {F G : List Nat} {f : FuncId} {caps : List AV} (r : SlRep h v0 xs F) (r' : SlRep h v1 ys G)
    (hf : ∀ x ∈ xs, ∀ y, ∀ (cs cs' : List AV) (F F' : List Nat) (h' : AH), Ext h h' → Cel.rep h' x cs F → Cel.rep h' y cs' F' → RCalls P f ([.agg cs, .agg cs'] ++ caps) h' (.bool (bp (x = y)))) :
    (pEqF w zero v0 v1 (.fn f caps)).awp P h (Post (.bool (bp (xs = ys))) h) := by
  subst hw
  have hpos := Cel.pos (α := α)
  have hsm := r.small
  unfold pEqF
  refine aw_len r (aw_len r' (aw_neq (fun hne => ?_) (fun heq => ?_)))
  · exact aw_ite_t (aw_fin1 (pf (by intro k; subst k; exact hne rfl)))
  · refine aw_ite_f (aw_len r ?_)
    refine aw_upto xs.length (fun i vs h1 => vs = [.int .i64 (i : Int)] ∧ i ≤ xs.length ∧ Ext h h1 ∧ EqUp xs ys i) ⟨rfl, Nat.zero_le _, Ext.refl _, eu0⟩ ?_
    rintro i vs h1 _ ⟨rfl, hi, e1, hu⟩
    simp only [g0]
    refine aw_lss (fun hlt => aw_ite_t ?_) (fun hge => aw_ite_f ?_)
    · obtain ⟨x, hx, -, -⟩ := drop_step (show i < xs.length by omega)
      obtain ⟨y, hy, -, -⟩ := drop_step (show i < ys.length by omega)
      refine aw_idx r hx rfl fun b o cs Fi a rx _ => ?_
      have hl := Cel.len rx
      refine aw_ldn_at a e1 hpos (List.take_of_length_le (by omega)) hl (aw_alloc (aw_st_0 rfl hl (by omega) ?_))
      rw [splice_all (by omega)]
      refine aw_idx r' hy rfl fun b' o' cs' Fi' a' ry _ => ?_
      have hl' := Cel.len ry
      refine aw_ldn_at a' (e1.push _) hpos (List.take_of_length_le (by omega)) hl' (aw_alloc (aw_st_0 rfl hl' (by omega) ?_))
      rw [splice_all (by omega)]
      refine aw_ldn_at (at_push.push _) (Ext.refl _) hpos (List.take_of_length_le (by omega)) hl (aw_ldn_at at_push (Ext.refl _) hpos (List.take_of_length_le (by omega)) hl' ?_)
      have e2 : Ext h ((h1.push ⟨cs, 0, 0⟩).push ⟨cs', 0, 0⟩) := (e1.push _).push _
      refine aw_rcallv (hf x (List.mem_of_getElem? hx) y cs cs' Fi Fi' _ e2 (rep_ext rx e2) (rep_ext ry e2)) (aw_not ?_)
      refine aw_ite (fun hp => ?_) (fun hp => ?_)
      · exact aw_fin1 (pf (euNot hx hy (bp_false (by simpa using hp))) e2)
      · exact aw_inc (by omega) (aw_leaf (aw_nexts ⟨by omega, rfl, by omega, e2, euS hu hx hy (bp_true (by simpa using hp))⟩))
    · exact aw_leaf (aw_ends (by decide) (aw_tsel_ne (by decide) (aw_tsel_eq (aw_fin1 (pt (euEnd (by rw [show i = xs.length by omega] at hu; exact hu) (by omega)) e1)))))
end
end Go.Ab
end
section
/- Appends: one value; a whole slice. -/
set_option linter.unusedSimpArgs false
set_option linter.unusedVariables false
namespace Go.Ab
open Go.RowKit

section
variable {α : Type} [Cel α] {P : Program} {h : AH} {Q : Nat → List AV → AH → Prop} {k : AV → Prog}
theorem empty_own {w : Nat} (hw : w = Cel.w α) : SlRep (h.push ⟨[], w, 0⟩) (.sl h.n 0 0) ([] : List α) [h.n] ∧ ∀ n, n ≤ h.n → Own n (h.push ⟨[], w, 0⟩) [h.n] := by
  subst hw
  exact ⟨slrep_push (n := 0) rfl (by decide) ⟨rfl, rfl⟩, fun n hn => own_push hn rfl (by simp) Own.nil⟩

theorem app1F {n es bytes : Nat} {x : AV} {xs : List α} {a : α} {cs : List AV} {Fx G : List Nat} (rx : SlRep h x xs Fx) (ra : Cel.rep h a cs G) (o : Own n h (Fx ++ G)) (hn : n ≤ h.n) (hw : es = Cel.w α) (hs : (xs.length + 1) * bytes ≤ 70368744177664) (hs2 : xs.length + 1 < 281474976710656)
    (hk : ∀ v h' F', (∀ h0, Ext h0 h → h0.n ≤ n → Ext h0 h') → Kp h h' Fx → SlRep h' v (xs ++ [a]) F' → Own n h' F' → (∀ c ∈ F', c ∈ Fx ∨ c ∈ G ∨ h.n ≤ c) → (k v).awp P h' Q) : (Prog.op (.app es bytes x (.sl h.n 0 1)) k).awp P (h.push ⟨cs, es, 0⟩) Q := by
  subst hw
  have ry := slrep_push (n := 1) (xs := [a]) rfl (by decide) (reps_one ra)
  refine aw_appF (n := n) (slr_push1 rx) ry ?_ (by simp; omega) rfl (by simpa using hs) (by simpa using hs2) ?_
  · simp only [List.tail_cons]
    refine o.ext ((Ext.refl h).push _) fun b hb => ?_
    rcases List.mem_append.1 hb with hb | hb
    · exact rx.lt b hb
    · exact Cel.lt ra b hb
  · intro v h' F' kp r' o' hF
    have kp' : Kp h h' Fx := (Kp.of_ext ((Ext.refl h).push _)).trans kp
    refine hk v h' F' (fun h0 e hn0 => kp'.ext e fun b hb => ?_) kp' r' o' fun c hc => ?_
    · have := (o.2 b (List.mem_append_left _ hb)).1; omega
    · rcases hF c hc with hc | hc | hc
      · exact .inl hc
      · exact .inr (.inl hc)
      · exact .inr (.inr (Nat.le_trans (by simp) hc))

theorem app1 {n es bytes : Nat} {x : AV} {xs : List α} {a : α} {cs : List AV} {Fx G : List Nat} (rx : SlRep h x xs Fx) (ra : Cel.rep h a cs G) (o : Own n h (Fx ++ G)) (hn : n ≤ h.n) (hw : es = Cel.w α) (hs : (xs.length + 1) * bytes ≤ 70368744177664) (hs2 : xs.length + 1 < 281474976710656)
    (hk : ∀ v h' F', (∀ h0, Ext h0 h → h0.n ≤ n → Ext h0 h') → Kp h h' Fx → SlRep h' v (xs ++ [a]) F' → Own n h' F' → (k v).awp P h' Q) : (Prog.op (.app es bytes x (.sl h.n 0 1)) k).awp P (h.push ⟨cs, es, 0⟩) Q := by
  subst hw
  have ry := slrep_push (n := 1) (xs := [a]) rfl (by decide) (reps_one ra)
  refine aw_app (n := n) (slr_push1 rx) ry ?_ (by simp; omega) rfl (by simpa using hs) (by simpa using hs2) ?_
  · simp only [List.tail_cons]
    refine o.ext ((Ext.refl h).push _) fun b hb => ?_
    rcases List.mem_append.1 hb with hb | hb
    · exact rx.lt b hb
    · exact Cel.lt ra b hb
  · intro v h' F' kp r' o'
    have kp' : Kp h h' Fx := (Kp.of_ext ((Ext.refl h).push _)).trans kp
    refine hk v h' F' (fun h0 e hn0 => kp'.ext e fun b hb => ?_) kp' r' o'
    have := (o.2 b (List.mem_append_left _ hb)).1; omega

theorem app0 {n es bytes : Nat} {y : AV} {ys : List α} {Fy : List Nat} (ry : SlRep h y ys Fy) (o : Own n h Fy.tail) (hn : n ≤ h.n) (hw : es = Cel.w α) (hs : ys.length * bytes ≤ 70368744177664)
    (hk : ∀ v h' F', Ext h h' → SlRep h' v ys F' → Own n h' F' → (k v).awp P h' Q) : (Prog.op (.app es bytes .nils y) k).awp P h Q := by
  have := ry.small
  refine aw_app (n := n) (xs := []) SlRep.nils ry (by simpa using o) hn hw (by simpa using hs) (by simpa using this) ?_
  intro v h' F' kp r' o'
  exact hk v h' F' (kp.ext (Ext.refl _) (by simp)) r' o'
theorem appE {n es bytes : Nat} {y : AV} {ys : List α} {Fy : List Nat} (ry : SlRep h y ys Fy) (o : Own n h Fy.tail) (hn : n ≤ h.n) (hw : es = Cel.w α) (hs : ys.length * bytes ≤ 70368744177664)
    (hk : ∀ v h' F', Ext h h' → SlRep h' v ys F' → Own n h' F' → (k v).awp P h' Q) : (Prog.op (.app es bytes (.sl h.n 0 0) y) k).awp P (h.push ⟨[], es, 0⟩) Q := by
  have hsm := ry.small
  obtain ⟨re, oe⟩ := empty_own (h := h) (α := α) hw
  have hlt := ry.lt
  have hltt : ∀ b ∈ Fy.tail, b < h.n := fun b hb => hlt b (List.mem_of_mem_tail hb)
  refine aw_app (n := n) (xs := []) re (slr_push1 ry) ?_ (by simp; omega) hw (by simpa using hs) (by simpa using hsm) ?_
  · exact own_push hn rfl hltt o
  · intro v h' F' kp r' o'
    exact hk v h' F' ⟨Nat.le_trans (by simp) kp.1, fun b hb => by
      rw [kp.2 b (by simp; omega) (by simp; omega)]
      have : b ≠ h.n := by omega
      simp [this]⟩ r' o'
end
section
variable {α : Type} [Flat α] {h : AH}
end
end Go.Ab
end
section
/- Walk rules of string([]byte). -/
namespace Go.Ab
variable {h : AH} {P : Program} {Q : Nat → List AV → AH → Prop} {k : AV → Prog}
theorem aw_bstr {x : AV} {s : ByteArray} (hv : bstrv h x = some s) (hl : blive h x) (hk : (k (.str s)).awp P h Q) : (Prog.op (.bstr x) k).awp P h Q := by
  simp only [Prog.awp, AOp.go, hv]; exact ⟨hl, hk⟩
theorem aw_bstr1 {b : Nat} {n : Int} (hc : (h.get b).cells = [.int .u8 n]) (hl : live h b) (hk : (k (.str ⟨#[UInt8.ofNat n.toNat]⟩)).awp P h Q) : (Prog.op (.bstr (.sl b 0 1)) k).awp P h Q := by
  refine aw_bstr (s := ⟨#[UInt8.ofNat n.toNat]⟩) ?_ hl hk
  simp [bstrv, hc, cbytes]
  rfl
end Go.Ab
end
section
/- Slices that are made element by element; an element of one's own slice, parted from the rest. -/
set_option linter.unusedSimpArgs false
set_option linter.unusedVariables false
namespace Go.Ab
open Go.RowKit

/-! ### An element, parted from the rest -/
theorem set_split {α : Type} {xs : List α} {i : Nat} {x x' : α} (hx : xs[i]? = some x) : xs.set i x' = xs.take i ++ x' :: xs.drop (i + 1) := by
  have hi := (List.getElem?_eq_some_iff.1 hx).1
  rw [List.set_eq_take_append_cons_drop, if_pos hi]
theorem get_split {α : Type} {xs : List α} {i : Nat} {x : α} (hx : xs[i]? = some x) : xs = xs.take i ++ x :: xs.drop (i + 1) := by
  obtain ⟨y, hy, hd, -⟩ := drop_step (List.getElem?_eq_some_iff.1 hx).1
  rw [hx] at hy; cases hy
  rw [← hd, List.take_append_drop]
section
variable {α : Type} [Cel α] {h h' : AH}
theorem Reps.app_split : ∀ {xs ys : List α} {cs : List AV} {F : List Nat}, Reps h (xs ++ ys) cs F → ∃ c1 c2 F1 F2, cs = c1 ++ c2 ∧ F = F1 ++ F2 ∧ Reps h xs c1 F1 ∧ Reps h ys c2 F2
  | [], ys, cs, F, r => ⟨[], cs, [], F, rfl, rfl, ⟨rfl, rfl⟩, r⟩
  | x :: xs, ys, cs, F, r => by
    obtain ⟨c1, c2, F1, F2, rfl, rfl, r1, r2⟩ := r
    obtain ⟨d1, d2, G1, G2, rfl, rfl, q1, q2⟩ := Reps.app_split r2
    exact ⟨c1 ++ d1, d2, F1 ++ G1, G2, by simp, by simp, ⟨c1, d1, F1, G1, rfl, rfl, r1, q1⟩, q2⟩
theorem SlRep.zip {v : AV} {xs : List α} {F : List Nat} (r : SlRep h v xs F) {i : Nat} {x : α} (hx : xs[i]? = some x) :
    ∃ b off A E R F1 Fi F2, v = .sl b off xs.length ∧ F = b :: (F1 ++ (Fi ++ F2)) ∧ b < h.n ∧ live h b ∧ (h.get b).es = Cel.w α ∧ (h.get b).cells = A ++ (E ++ R) ∧ A.length = off + i * Cel.w α ∧ Cel.rep h x E Fi ∧
      ∀ (h' : AH) (x' : α) (E' : List AV) (Fi' : List Nat), (h'.get b).cells = A ++ (E' ++ R) → (h'.get b).es = Cel.w α → live h' b → b < h'.n → (∀ c ∈ F1 ++ F2, h'.get c = h.get c ∧ c < h'.n) → Cel.rep h' x' E' Fi' →
        SlRep h' v (xs.set i x') (b :: (F1 ++ (Fi' ++ F2))) := by
  have hi : i < xs.length := (List.getElem?_eq_some_iff.1 hx).1
  rcases r with ⟨_, h1, _⟩ | ⟨b, off, F', cs, e1, rfl, h1, h2, h3, h4, h5, h6, h7⟩
  · omega
  · have h7' := h7
    have hsp : xs = xs.take i ++ ([x] ++ xs.drop (i + 1)) := by simpa using get_split hx
    rw [hsp] at h7'
    obtain ⟨c1, c2, F1, F2, rfl, rfl, q1, q2⟩ := h7'.app_split
    obtain ⟨E, c3, Fi, F3, rfl, rfl, q3, q4⟩ := q2
    have q3 : Cel.rep h x E Fi := q3
    have l1 := q1.length
    have l3 := Cel.len q3
    have l4 := Reps.length (xs := xs.drop (i + 1)) q4
    rw [List.length_take, Nat.min_eq_left (by omega)] at l1
    rw [List.length_drop] at l4
    have hmul : xs.length * Cel.w α = i * Cel.w α + Cel.w α + (xs.length - (i + 1)) * Cel.w α := by
      rw [← Nat.succ_mul, ← Nat.add_mul]; congr 1; omega
    have hcells : (h.get b).cells = ((h.get b).cells.take off ++ c1) ++ (E ++ (c3 ++ (h.get b).cells.drop (off + xs.length * Cel.w α))) := by
      have : (h.get b).cells = (h.get b).cells.take off ++ ((c1 ++ (E ++ c3)) ++ (h.get b).cells.drop (off + xs.length * Cel.w α)) := by
        rw [h6, ← List.append_assoc, ← List.take_add, List.take_append_drop]
      simpa using this
    refine ⟨b, off, (h.get b).cells.take off ++ c1, E, c3 ++ (h.get b).cells.drop (off + xs.length * Cel.w α), F1, Fi, F3, e1, rfl, h1, h2, h3, hcells, ?_, q3, ?_⟩
    · rw [List.length_append, List.length_take, l1]; omega
    · intro h' x' E' Fi' g1 g2 g3 g4 g5 g6
      have lE := Cel.len g6
      rw [set_split hx]
      refine .inr ⟨b, off, F1 ++ (Fi' ++ F3), c1 ++ (E' ++ c3), ?_, rfl, g4, g3, g2, ?_, ?_, ?_, ?_⟩
      · rw [e1]; congr 1
        simp only [List.length_append, List.length_take, List.length_cons, List.length_drop]; omega
      · rw [g1]
        simp only [List.length_append, List.length_take, List.length_cons, List.length_drop, lE, l1, l4]
        have : (min i xs.length + (xs.length - (i + 1) + 1)) = xs.length := by omega
        rw [this, hmul]
        omega
      · simp only [List.length_append, List.length_take, List.length_cons, List.length_drop]; omega
      · rw [g1]
        have e2 : (List.take i xs ++ x' :: List.drop (i + 1) xs).length = xs.length := by simp only [List.length_append, List.length_take, List.length_cons, List.length_drop]; omega
        rw [e2]
        have e3 : ((h.get b).cells.take off).length = off := by rw [List.length_take]; omega
        have e4 : (c1 ++ (E' ++ c3)).length = xs.length * Cel.w α := by rw [List.length_append, List.length_append, l1, lE, l4, hmul]; omega
        rw [show ((h.get b).cells.take off ++ c1) ++ (E' ++ (c3 ++ (h.get b).cells.drop (off + xs.length * Cel.w α))) = (h.get b).cells.take off ++ ((c1 ++ (E' ++ c3)) ++ (h.get b).cells.drop (off + xs.length * Cel.w α)) by simp]
        rw [List.drop_left' e3, ← e4, List.take_left]
      · have k1 : Reps h' (xs.take i) c1 F1 := q1.keep fun c hc => g5 c (List.mem_append_left _ hc)
        have k2 : Reps h' (xs.drop (i + 1)) c3 F3 := Reps.keep (xs := xs.drop (i + 1)) q4 fun c hc => g5 c (List.mem_append_right _ hc)
        exact k1.append ⟨E', c3, Fi', F3, rfl, rfl, g6, k2⟩
end
section
variable {P : Program} {h : AH} {Q : Nat → List AV → AH → Prop} {k : AV → Prog}
theorem w_stz {n b o j es : Nat} {A E E' R xs : List AV} {x : AV} (hg : h.get b = ⟨A ++ (E ++ R), es, 0⟩) (ho : A.length = o) (hx : x.cells? = some xs) (hn : xs.length = n) (s : SP E j xs E') (hk : (k (.tup [])).awp P (h.upd b ⟨A ++ (E' ++ R), es, 0⟩) Q) :
    (Prog.op (.st n (.ptr b (o + j)) x) k).awp P h Q := by
  obtain ⟨s1, rfl⟩ := s
  subst ho hn
  refine aw_st (by simp [mine, hg]) hx rfl (by rw [hg]; simp only [List.length_append]; omega) ?_
  have : splice (A ++ (E ++ R)) (A.length + j) xs = A ++ (splice E j xs ++ R) := by
    have e1 : A ++ (E ++ R) = (A ++ E.take j) ++ (E.drop j ++ R) := by
      rw [List.append_assoc, ← List.append_assoc (E.take j), List.take_append_drop]
    rw [e1, splice_mid (A := A ++ E.take j) (by simp; omega) (by simp; omega), List.drop_append_of_le_length (by simp; omega), List.drop_drop]
    unfold splice
    simp
  rw [hg]; simp only [this]; exact hk
end

theorem tail_own {α : Type} [Flat α] {h0 h : AH} {v : AV} {xs : List α} {F : List Nat} (r : SlRep h0 v xs F) (n : Nat) : Own n h F.tail := by
  rcases r.flat with ⟨_, _, rfl⟩ | ⟨b, _, _, _, rfl, _⟩ <;> exact Own.nil

section
variable {α : Type} [Cel α] {P : Program} {h h0 : AH} {Q : Nat → List AV → AH → Prop} {k : AV → Prog}
theorem own_tail {n : Nat} {F G : List Nat} (o : Own n h (F ++ G)) : Own n h (F ++ G.tail) := by
  cases G with
  | nil => exact o
  | cons b G =>
    have h1 := List.nodup_append.1 o.1
    exact ⟨List.nodup_append.2 ⟨h1.1, (List.nodup_cons.1 h1.2.1).2, fun a ha c hc e => h1.2.2 a ha c (List.mem_cons_of_mem _ hc) e⟩, fun c hc => o.2 c (by
      rcases List.mem_append.1 hc with hc | hc
      · simp [hc]
      · simp [show c ∈ G from hc])⟩
theorem app2' {n es bytes : Nat} {x y : AV} {xs ys : List α} {Fx Fy : List Nat} (rx : SlRep h x xs Fx) (ry : SlRep h y ys Fy) (o : Own n h (Fx ++ Fy)) (hn : n ≤ h.n) (hw : es = Cel.w α) (hb : (xs.length + ys.length) * bytes ≤ 70368744177664) (hs : xs.length + ys.length < 281474976710656)
    (hk : ∀ v h' F', (∀ h0, Ext h0 h → h0.n ≤ n → Ext h0 h') → Kp h h' Fx → SlRep h' v (xs ++ ys) F' → Own n h' F' → (k v).awp P h' Q) : (Prog.op (.app es bytes x y) k).awp P h Q := by
  refine aw_app rx ry (own_tail o) hn hw hb hs fun v h' F' kp r' o' => hk v h' F' (fun h0 e hn0 => kp.ext e fun b hb => ?_) kp r' o'
  have := (o.2 b (List.mem_append_left _ hb)).1; omega
end

section
variable {α : Type} [Flat α] {P : Program} {h : AH} {Q : Nat → List AV → AH → Prop} {k : AV → Prog}
theorem app2F {n es bytes : Nat} {x y : AV} {xs ys : List α} {Fx Fy : List Nat} (rx : SlRep h x xs Fx) (ry : SlRep h y ys Fy) (o : Own n h Fx) (hn : n ≤ h.n) (hw : es = Cel.w α) (hb : (xs.length + ys.length) * bytes ≤ 70368744177664) (hs : xs.length + ys.length < 281474976710656)
    (hk : ∀ v h' F', (∀ h0, Ext h0 h → h0.n ≤ n → Ext h0 h') → Kp h h' Fx → SlRep h' v (xs ++ ys) F' → Own n h' F' → (k v).awp P h' Q) : (Prog.op (.app es bytes x y) k).awp P h Q := by
  have ht : Fy.tail = [] := by rcases ry.flat with ⟨_, _, rfl⟩ | ⟨b, _, _, _, rfl, _⟩ <;> rfl
  refine aw_app rx ry (by rw [ht, List.append_nil]; exact o) hn hw hb hs fun v h' F' kp r' o' => hk v h' F' (fun h0 e hn0 => kp.ext e fun b hb => ?_) kp r' o'
  have := (o.2 b hb).1; omega
end

/-! ### Slices made element by element -/
section
variable {α : Type} [Cel α] {P : Program} {h : AH}
theorem afill1 {w : Nat} {zero cs : List AV} (hz : zero.length = w) (hc : cs.length = w) : afill zero [(0, w, .agg cs)] = some cs := by
  simp only [afill, AV.cells?]
  rw [if_pos ⟨hc, by omega⟩, splice_all (by omega)]

def pMapI (w bytes : Nat) (zero : List AV) (c : Nat) (x0 : AV) : Prog := .op (.len 0 x0) fun v1 => .loop [AV.nils, AV.int .i64 0] (fun vs2 => .op (.bin 0 .lss (g vs2 1) v1) fun v4 => .ite v4 (.op (.idx w x0 (g vs2 1)) fun v5 => .op (.ldn w v5) fun v6 => .op (.alloc zero) fun v7 => .op (.st w v7 v6) fun v8 => .op (.ldn w v7) fun v9 => .op (.call c [v9]) fun v10 => .op (.bslice w 1 zero [(0, w, v10)]) fun v11 => .op (.app w bytes (g vs2 0) v11) fun v12 => .op (.bin 0 .add (g vs2 1) (AV.int .i64 1)) fun v13 => .leaf 0 [v12, v13]) (.leaf 2 [g vs2 0, g vs2 1])) fun t3 vs2 => tsel t3 1 (.leaf 1 vs2) (tsel t3 2 (.fin [.val (g vs2 0)]) .bad)
theorem mapI_spec {w bytes c : Nat} {zero : List AV} (hw : w = Cel.w α) (hz : zero.length = w) (hw2 : w ≤ 1000) {xs : List α} (hc : ∀ x ∈ xs, CopyX α P c x) {x0 : AV} {F : List Nat} (r : SlRep h x0 xs F) (hs : xs.length * bytes ≤ 70368744177664) :
    (pMapI w bytes zero c x0).awp P h fun t vs h' => t = 1 ∧ ∃ u, vs = [u] ∧ NewS α h xs u h' := by
  subst hw
  unfold pMapI
  have hsm := r.small
  have hpos := Cel.pos (α := α)
  refine aw_len r ?_
  refine aw_upto xs.length (fun i vs h1 => ∃ u G, vs = [u, .int .i64 (i : Int)] ∧ i ≤ xs.length ∧ Ext h h1 ∧ SlRep h1 u (xs.take i) G ∧ Own h.n h1 G) ⟨.nils, [], rfl, Nat.zero_le _, Ext.refl _, SlRep.nils, Own.nil⟩ ?_
  rintro i vs h1 _ ⟨u, G, rfl, hi, e1, ru, ou⟩
  simp only [g0, g1]
  refine aw_lss (fun hlt => aw_ite_t ?_) (fun hge => aw_ite_f ?_)
  · obtain ⟨x, hx, -, htk⟩ := drop_step (show i < xs.length by omega)
    refine aw_idx r hx rfl fun b o cs Fi a rx _ => ?_
    have hl := Cel.len rx
    refine aw_ldn_at a e1 hpos (List.take_of_length_le (by omega)) hl (aw_alloc (aw_st_0 rfl hl (by omega) ?_))
    rw [splice_all (by omega)]
    refine aw_ldn_at at_push (Ext.refl _) hpos (List.take_of_length_le (by omega)) hl ?_
    have e2 := e1.push ⟨cs, 0, 0⟩
    refine aw_call (hc x (List.mem_of_getElem? hx) cs Fi _ (rep_ext rx e2)) ?_
    rintro _ h2 ⟨e3, cs', G2, rfl, rx', o2⟩
    have n3 := e3.1
    simp only [push_n] at n3
    refine aw_bslice (afill1 hz (Cel.len rx')) (by omega) (by rw [Cel.len rx', Nat.one_mul]) ?_
    have ru2 : SlRep h2 u (xs.take i) G := (ru.ext ((Ext.refl h1).push _)).ext e3
    have hlen : (xs.take i).length = i := by rw [List.length_take]; omega
    have o3 : Own h.n h2 (G ++ G2) := by
      refine own_app ((ou.ext ((Ext.refl h1).push _) ru.lt).ext e3 fun b hb => by have := ru.lt b hb; simp; omega) o2 (by have := e1.1; simp only [push_n]; omega) fun c h1 h2 => ?_
      have := ru.lt c h1; have := (o2.2 c h2).1; simp only [push_n] at this; omega
    refine app1 (n := h.n) ru2 rx' o3 (by have := e1.1; omega) rfl ?_ (by rw [hlen]; omega) ?_
    · rw [hlen]; exact Nat.le_trans (Nat.mul_le_mul_right _ (by omega)) hs
    · intro u' h' F' ek kp r' o'
      refine aw_inc (by omega) (aw_leaf (aw_nexts ⟨by omega, u', F', rfl, by omega, ek h (e2.trans e3) (Nat.le_refl _), by rw [htk]; exact r', o'⟩))
  · exact aw_leaf (aw_ends (by decide) (aw_tsel_ne (by decide) (aw_tsel_eq (aw_fin1 ⟨rfl, u, rfl, e1, G, by rw [show i = xs.length by omega, List.take_length] at ru; exact ru, ou⟩))))

def pMapS (w bytes : Nat) (zero : List AV) (c : Nat) (x0 : AV) : Prog := .op (.bslice w 0 [] []) fun v1 => .loop [v1, AV.int .i64 0] (fun vs2 => .op (.len 0 x0) fun v4 => .op (.bin 0 .lss (g vs2 1) v4) fun v5 => .ite v5 (.op (.idx w x0 (g vs2 1)) fun v6 => .op (.ldn w v6) fun v7 => .op (.call c [v7]) fun v8 => .op (.alloc zero) fun v9 => .op (.st w v9 v8) fun v10 => .op (.ldn w v9) fun v11 => .op (.bslice w 1 zero [(0, w, v11)]) fun v12 => .op (.app w bytes (g vs2 0) v12) fun v13 => .op (.bin 0 .add (g vs2 1) (AV.int .i64 1)) fun v14 => .leaf 0 [v13, v14]) (.leaf 2 [g vs2 0, g vs2 1])) fun t3 vs2 => tsel t3 1 (.leaf 1 vs2) (tsel t3 2 (.fin [.val (g vs2 0)]) .bad)
theorem mapS_spec {w bytes c : Nat} {zero : List AV} (hw : w = Cel.w α) (hz : zero.length = w) (hw2 : w ≤ 1000) {xs : List α} (hc : ∀ x ∈ xs, CopyX α P c x) {x0 : AV} {F : List Nat} (r : SlRep h x0 xs F) (hs : xs.length * bytes ≤ 70368744177664) :
    (pMapS w bytes zero c x0).awp P h fun t vs h' => t = 1 ∧ ∃ u, vs = [u] ∧ NewS α h xs u h' := by
  subst hw
  unfold pMapS
  have hsm := r.small
  have hpos := Cel.pos (α := α)
  obtain ⟨re, oe⟩ := empty_own (h := h) (α := α) (w := Cel.w α) rfl
  refine aw_bslice rfl (by omega) (by simp) ?_
  refine aw_upto xs.length (fun i vs h1 => ∃ u G, vs = [u, .int .i64 (i : Int)] ∧ i ≤ xs.length ∧ Ext h h1 ∧ SlRep h1 u (xs.take i) G ∧ Own h.n h1 G) ⟨_, _, rfl, Nat.zero_le _, (Ext.refl _).push _, by rw [List.take_zero]; exact re, oe _ (Nat.le_refl _)⟩ ?_
  rintro i vs h1 _ ⟨u, G, rfl, hi, e1, ru, ou⟩
  simp only [g0, g1]
  refine aw_len r (aw_lss (fun hlt => aw_ite_t ?_) (fun hge => aw_ite_f ?_))
  · obtain ⟨x, hx, -, htk⟩ := drop_step (show i < xs.length by omega)
    refine aw_idx r hx rfl fun b o cs Fi a rx _ => ?_
    have hl := Cel.len rx
    refine aw_ldn_at a e1 hpos (List.take_of_length_le (by omega)) hl ?_
    refine aw_call (hc x (List.mem_of_getElem? hx) cs Fi _ (rep_ext rx e1)) ?_
    rintro _ h2 ⟨e3, cs', G2, rfl, rx', o2⟩
    have n3 := e3.1
    have hl2 := Cel.len rx'
    refine aw_alloc (aw_st_0 rfl hl2 (by omega) ?_)
    rw [splice_all (by omega)]
    refine aw_ldn_at at_push (Ext.refl _) hpos (List.take_of_length_le (by omega)) hl2 ?_
    have e4 := (Ext.refl h2).push ⟨cs', 0, 0⟩
    refine aw_bslice (afill1 hz hl2) (by omega) (by rw [hl2, Nat.one_mul]) ?_
    have ru2 : SlRep h2 u (xs.take i) G := ru.ext e3
    have hlen : (xs.take i).length = i := by rw [List.length_take]; omega
    have o3 : Own h.n h2 (G ++ G2) := by
      refine own_app (ou.ext e3 ru.lt) o2 e1.1 fun c h1 h2 => ?_
      have := ru.lt c h1; have := (o2.2 c h2).1; omega
    refine app1 (n := h.n) (ru2.ext e4) (rep_ext rx' e4) (o3.ext e4 fun b hb => ?_) (by have := e1.1; simp only [push_n]; omega) rfl ?_ (by rw [hlen]; omega) ?_
    · rcases List.mem_append.1 hb with hb | hb
      · exact ru2.lt b hb
      · exact Cel.lt rx' b hb
    · rw [hlen]; exact Nat.le_trans (Nat.mul_le_mul_right _ (by omega)) hs
    · intro u' h' F' ek kp r' o'
      refine aw_inc (by omega) (aw_leaf (aw_nexts ⟨by omega, u', F', rfl, by omega, ek h ((e1.trans e3).trans e4) (Nat.le_refl _), by rw [htk]; exact r', o'⟩))
  · exact aw_leaf (aw_ends (by decide) (aw_tsel_ne (by decide) (aw_tsel_eq (aw_fin1 ⟨rfl, u, rfl, e1, G, by rw [show i = xs.length by omega, List.take_length] at ru; exact ru, ou⟩))))
end
end Go.Ab
end
section
/- An element is taken out of a slice of one's own. -/
set_option linter.unusedSimpArgs false
set_option linter.unusedVariables false
namespace Go.Ab
open Go.RowKit

section
variable {P : Program} {h : AH} {Q : Nat → List AV → AH → Prop} {k : AV → Prog}
end

section
variable {α : Type} [Cel α] {P : Program} {h : AH}
end
end Go.Ab
end
section
/- Slices of slices: copies, comparisons, sizes. -/
set_option linter.unusedSimpArgs false
set_option linter.unusedVariables false
namespace Go.Ab
open Go.RowKit

section
variable {α : Type} [Cel α] {P : Program} {h : AH}
def pToSS (w bytes : Nat) (zero : List AV) (c : Nat) (x0 : AV) : Prog := .op (.len 0 x0) fun v1 => .op (.mksl w bytes zero v1 v1) fun v2 => .loop [AV.int .i64 0] (fun vs3 => .op (.len 0 x0) fun v5 => .op (.bin 0 .lss (g vs3 0) v5) fun v6 => .ite v6 (.op (.idx w x0 (g vs3 0)) fun v7 => .op (.ld1 v7) fun v8 => .op (.call c [v8]) fun v9 => .op (.idx w v2 (g vs3 0)) fun v10 => .op (.st w v10 v9) fun v11 => .op (.bin 0 .add (g vs3 0) (AV.int .i64 1)) fun v12 => .leaf 0 [v12]) (.leaf 2 [g vs3 0])) fun t4 vs3 => tsel t4 1 (.leaf 1 vs3) (tsel t4 2 (.fin [.val v2]) .bad)
theorem toSS_spec {w bytes c n : Nat} {zero : List AV} (hw : w = Cel.w (List α)) (hz : zero.length = w) (hbn : bytes = n) {xs : List (List α)} (hc : ∀ x ∈ xs, CopyL P c x) {x0 : AV} {F : List Nat} (r : SlRep h x0 xs F) (hs : xs.length * n ≤ 70368744177664) :
    (pToSS w bytes zero c x0).awp P h fun t vs h' => t = 1 ∧ ∃ v, vs = [v] ∧ Ext h h' ∧ ∃ F', SlRep h' v xs F' ∧ Own h.n h' F' := by
  subst hw hbn
  unfold pToSS
  have hsm := r.small
  have hpos := Cel.pos (α := List α)
  refine aw_len r (aw_mksl hs ?_)
  refine aw_upto xs.length (fun i vs h1 => vs = [.int .i64 (i : Int)] ∧ i ≤ xs.length ∧ Ext h h1 ∧ h.n < h1.n ∧ ∃ A FA, h1.get h.n = ⟨A ++ (List.replicate (xs.length - i) zero).flatten, Cel.w (List α), 0⟩ ∧ Reps h1 (xs.take i) A FA ∧ Own (h.n + 1) h1 FA) ?_ ?_
  · exact ⟨rfl, Nat.zero_le _, (Ext.refl h).push _, by simp, [], [], by simp, ⟨rfl, rfl⟩, Own.nil⟩
  · rintro i vs h1 _ ⟨rfl, hi, e, hn, A, FA, hg, ra, oa⟩
    refine aw_len r (aw_lss ?_ ?_)
    · intro hlt
      have hlt : i < xs.length := by simp [g] at hlt; exact hlt
      obtain ⟨x, hx, _, htk⟩ := drop_step hlt
      refine aw_ite_t (aw_idx r hx rfl ?_)
      rintro b o _ Fi a ⟨v0, rfl, rx0⟩ _
      refine aw_ld1_at a e (aw_call (hc x (List.mem_of_getElem? hx) v0 Fi h1 (rx0.ext e)) ?_)
      rintro v h2 ⟨e2, F', rx0', o'⟩
      obtain ⟨cs', hcs'⟩ : ∃ cs', cs' = [v] := ⟨_, rfl⟩
      have rx' : Cel.rep h2 x cs' F' := ⟨v, hcs', rx0'⟩
      have hl' := Cel.len rx'
      have hA := ra.length
      rw [List.length_take, Nat.min_eq_left hi] at hA
      have hg2 : h2.get h.n = ⟨A ++ (List.replicate (xs.length - i) zero).flatten, Cel.w (List α), 0⟩ := by rw [e2.2 _ hn]; exact hg
      have hle : i * Cel.w (List α) + Cel.w (List α) ≤ xs.length * Cel.w (List α) := by
        have := Nat.mul_le_mul_right (Cel.w (List α)) (show i + 1 ≤ xs.length from hlt)
        rw [Nat.succ_mul] at this; exact this
      have hZ : ((List.replicate (xs.length - i) zero).flatten).length = xs.length * Cel.w (List α) - i * Cel.w (List α) := by rw [flat_len, hz, Nat.mul_sub_right_distrib]
      refine aw_idx_raw (i := i) hlt ?_
      refine aw_st (by simp [mine, hg2]) (by rw [hcs']; exact rx0'.cell) hl' (by simp only [hg2, List.length_append, hZ, hA]; omega) ?_
      refine aw_inc (j := i) (by omega) ?_
      refine aw_leaf ?_
      simp only [hg2, Nat.zero_add]
      simp only [if_true]
      refine ⟨hlt, trivial, hlt, (e.trans e2).upd (Nat.le_refl _) _, Nat.lt_of_lt_of_le hn e2.1, A ++ cs', FA ++ F', ?_, ?_, ?_⟩
      · have : xs.length - i = xs.length - (i + 1) + 1 := by omega
        simp only [upd_get, if_true]
        rw [splice_mid hA (by rw [hZ]; omega), this, hl', ← hz, flat_drop, hz]
      · rw [htk]
        have keep : ∀ b, h.n < b → b < h2.n → (h2.upd h.n { h2.get h.n with cells := splice (A ++ (List.replicate (xs.length - i) zero).flatten) (i * Cel.w (List α)) cs' }).get b = h2.get b ∧ b < (h2.upd h.n { h2.get h.n with cells := splice (A ++ (List.replicate (xs.length - i) zero).flatten) (i * Cel.w (List α)) cs' }).n := by
          intro b hb hb2
          have : b ≠ h.n := by omega
          exact ⟨by simp [this], hb2⟩
        simp only [hg2] at keep
        refine ((ra.ext e2).keep fun b hb => keep b (oa.2 b hb).1 ((ra.ext e2).lt b hb)).snoc (Cel.keep rx' fun b hb => keep b (by have := (o'.2 b hb).1; omega) (Cel.lt rx' b hb))
      · refine ⟨List.nodup_append.2 ⟨oa.1, o'.1, ?_⟩, ?_⟩
        · intro a ha b hb e
          subst e
          have := ra.lt a ha
          have := (o'.2 a hb).1
          omega
        · intro b hb
          have hb2 : h.n < b ∧ (h2.get b).st = 0 := by
            rcases List.mem_append.1 hb with hb | hb
            · have h1 := oa.2 b hb
              exact ⟨h1.1, by rw [e2.2 b (ra.lt b hb)]; exact h1.2⟩
            · have h1 := o'.2 b hb
              exact ⟨by omega, h1.2⟩
          have : b ≠ h.n := by omega
          exact ⟨hb2.1, by simp [this, hb2.2]⟩
    · intro hge
      have hge : ¬ i < xs.length := by simp [g] at hge; omega
      have hi' : i = xs.length := by omega
      subst hi'
      refine aw_ite_f (aw_leaf ?_)
      simp only [tsel, g]
      simp only [show (2 : Nat) ≠ 0 by decide, show (2 : Nat) ≠ 1 by decide, if_false, if_true]
      refine aw_fin1 ⟨rfl, _, rfl, e, h.n :: FA, .inr ⟨h.n, 0, FA, A, rfl, rfl, hn, ?_, ?_, ?_, hsm, ?_, ?_⟩, ?_⟩
      · simp [live, hg]
      · simp [hg]
      · have := ra.length
        simp at this
        simp [hg, this]
      · have := ra.length
        simp at this
        simp [hg, ← this]
      · simpa using ra
      · refine ⟨List.nodup_cons.2 ⟨fun hm => ?_, oa.1⟩, ?_⟩
        · have := (oa.2 _ hm).1; omega
        · intro b hb
          rcases List.mem_cons.1 hb with rfl | hb
          · exact ⟨Nat.le_refl _, by simp [hg]⟩
          · exact ⟨by have := (oa.2 b hb).1; omega, (oa.2 b hb).2⟩

def pEqSS (c : Nat) (x0 x1 : AV) : Prog := .op (.len 0 x0) fun v1 => .op (.len 0 x1) fun v2 => .op (.bin 0 .neq v1 v2) fun v3 => .ite v3 (.fin [.val (AV.bool false)]) (.loop [AV.int .i64 0] (fun vs4 => .op (.len 0 x0) fun v6 => .op (.bin 0 .lss (g vs4 0) v6) fun v7 => .ite v7 (.op (.idx 1 x0 (g vs4 0)) fun v8 => .op (.ld1 v8) fun v9 => .op (.idx 1 x1 (g vs4 0)) fun v10 => .op (.ld1 v10) fun v11 => .op (.call c [v9, v11]) fun v12 => .op (.una .not v12) fun v13 => .ite v13 (.fin [.val (AV.bool false)]) (.op (.bin 0 .add (g vs4 0) (AV.int .i64 1)) fun v14 => .leaf 0 [v14])) (.leaf 2 [g vs4 0])) fun t5 vs4 => tsel t5 1 (.leaf 1 vs4) (tsel t5 2 (.fin [.val (AV.bool true)]) .bad))
theorem eqSS_spec {c : Nat} {xs : List (List α)} (hc : EqS α P c) {x0 x1 : AV} {F F' : List Nat} (r : SlRep h x0 xs F) (r' : SlRep h x1 xs F') :
    (pEqSS c x0 x1).awp P h (Post (.bool true) h) := by
  unfold pEqSS
  have hsm := r.small
  refine aw_len r (aw_len r' (aw_neq (fun hne => absurd rfl hne) fun _ => aw_ite_f ?_))
  refine aw_upto xs.length (fun i vs h1 => vs = [.int .i64 (i : Int)] ∧ i ≤ xs.length ∧ h1 = h) ⟨rfl, Nat.zero_le _, rfl⟩ ?_
  rintro i vs h1 _ ⟨rfl, hi, rfl⟩
  refine aw_len r (aw_lss ?_ ?_)
  · intro hlt
    have hlt : i < xs.length := by simp [g] at hlt; exact hlt
    obtain ⟨x, hx, _, htk⟩ := drop_step hlt
    refine aw_ite_t (aw_idx r hx rfl ?_)
    rintro b o _ Fi a ⟨v0, rfl, rx⟩ _
    refine aw_ld1_at a (Ext.refl _) (aw_idx r' hx rfl ?_)
    rintro b' o' _ Fi' a' ⟨v0', rfl, rx'⟩ _
    refine aw_ld1_at a' (Ext.refl _) (aw_rcall (hc x v0 v0' Fi Fi' h1 rx rx') (aw_not_t (aw_ite_f ?_)))
    refine aw_inc (j := i) (by omega) ?_
    exact aw_leaf (nexts ⟨hlt, rfl, hlt, rfl⟩)
  · intro hge
    exact aw_ite_f (aw_leaf (ends2 (aw_fin1 ⟨rfl, rfl, Ext.refl _⟩)))

def pSzSS (c : Nat) (x0 x1 : AV) : Prog := .op (.len 0 x0) fun v1 => .op (.bin 0 .sub x1 v1) fun v2 => .op (.bin 0 .lss v2 (AV.int .i64 0)) fun v3 => .ite v3 (.fin [.val (AV.int .i64 (-1))]) (.loop [v2, AV.int .i64 0] (fun vs4 => .op (.len 0 x0) fun v6 => .op (.bin 0 .lss (g vs4 1) v6) fun v7 => .ite v7 (.op (.idx 1 x0 (g vs4 1)) fun v8 => .op (.ld1 v8) fun v9 => .op (.call c [v9, g vs4 0]) fun v10 => .op (.bin 0 .lss v10 (AV.int .i64 0)) fun v11 => .ite v11 (.fin [.val (AV.int .i64 (-1))]) (.op (.bin 0 .add (g vs4 1) (AV.int .i64 1)) fun v12 => .leaf 0 [v10, v12])) (.leaf 2 [g vs4 0, g vs4 1])) fun t5 vs4 => tsel t5 1 (.leaf 1 vs4) (tsel t5 2 (.fin [.val (g vs4 0)]) .bad))
theorem szSS_spec [Sz α] {c : Nat} {xs : List (List α)} (hc : SzL α P c) (ok : ∀ x ∈ xs, Cel.ok x) {x0 : AV} {F : List Nat} {b : Int} (r : SlRep h x0 xs F) (h0 : 0 ≤ b) (h1 : b ≤ 1048576) :
    (pSzSS c x0 (.int .i64 b)).awp P h (Post (.int .i64 (szr b (xs.length + szs xs))) h) := by
  have hsm := r.small
  unfold pSzSS
  refine aw_len r (aw_subw ?_)
  rw [wrap_id (by omega) (by omega)]
  refine aw_lss (fun hl => aw_ite_t (aw_fin1 ⟨rfl, ?_, Ext.refl _⟩)) (fun hl => aw_ite_f ?_)
  · simp only [szr]; rw [if_neg (by omega)]
  refine aw_upto xs.length (fun i vs h1 => vs = [.int .i64 (b - xs.length - szs (xs.take i)), .int .i64 (i : Int)] ∧ 0 ≤ b - xs.length - szs (xs.take i) ∧ i ≤ xs.length ∧ h1 = h) ⟨by simp [szs], by simp [szs]; omega, Nat.zero_le _, rfl⟩ ?_
  rintro i vs h1 _ ⟨rfl, hb, hi, rfl⟩
  refine aw_len r (aw_lss ?_ ?_)
  · intro hlt
    have hlt : i < xs.length := by simp [g] at hlt; exact hlt
    obtain ⟨x, hx, _, htk⟩ := drop_step hlt
    have hs := szs_take htk
    have hle := szs_take_le xs (i + 1)
    refine aw_ite_t (aw_idx r hx rfl ?_)
    rintro bb o _ Fi a ⟨v0, rfl, rx⟩ _
    refine aw_ld1_at a (Ext.refl _) (aw_rcall (hc x (ok x (List.mem_of_getElem? hx)) v0 Fi _ h1 rx hb (by omega)) ?_)
    have hsz : x.length + szs x = Sz.sz x := rfl
    rw [hsz]
    refine aw_lss (fun hl => aw_ite_t (aw_fin1 ⟨rfl, ?_, Ext.refl _⟩)) (fun hl => aw_ite_f ?_)
    · simp only [szr] at hl ⊢
      split at hl
      · omega
      · rw [if_neg (by omega)]
    · refine aw_inc (j := i) (by omega) ?_
      refine aw_leaf (nexts ?_)
      have : szr (b - xs.length - szs (xs.take i)) (Sz.sz x) = b - xs.length - szs (xs.take (i + 1)) := by
        simp only [szr] at hl ⊢
        split at hl
        · rename_i hh; rw [if_pos hh]; omega
        · omega
      rw [this] at hl ⊢
      exact ⟨hlt, rfl, by omega, hlt, rfl⟩
  · intro hge
    have : i = xs.length := by simp [g] at hge; omega
    subst this
    rw [List.take_length] at hb
    refine aw_ite_f (aw_leaf (ends2 (aw_fin1 ⟨rfl, ?_, Ext.refl _⟩)))
    simp only [szr, g0, List.take_length]
    rw [if_pos (by omega)]
    rw [show b - ((xs.length + szs xs : Nat) : Int) = b - xs.length - szs xs by omega]

end

section
variable {h : AH} {F G H : List Nat}
theorem dis_appR (a : ∀ c ∈ F, c ∉ G) (b : ∀ c ∈ F, c ∉ H) : ∀ c ∈ F, c ∉ G ++ H := fun c hc hm => by
  rcases List.mem_append.1 hm with hm | hm
  · exact a c hc hm
  · exact b c hc hm
theorem dis_l (d : ∀ c ∈ F, c ∉ G ++ H) : ∀ c ∈ F, c ∉ G := fun c hc hm => d c hc (List.mem_append_left _ hm)
theorem dis_r (d : ∀ c ∈ F, c ∉ G ++ H) : ∀ c ∈ F, c ∉ H := fun c hc hm => d c hc (List.mem_append_right _ hm)
theorem disn_auto (d : ∀ c ∈ F, c ∉ G := by (repeat (first | assumption | with_reducible apply dis_appR | exact dis_auto))) : ∀ c ∈ F, c ∉ G := d
end
end Go.Ab
end
section
/- Searches that look at the elements of the list alone; numbers written into a slice. -/
set_option linter.unusedSimpArgs false
set_option linter.unusedVariables false
namespace Go.Ab
open Go.RowKit
section
variable {α : Type} [Cel α] {P : Program} {h : AH}
def LooksI (α : Type) [Cel α] (P : Program) (h : AH) (f : FuncId) (caps : List AV) (xs : List α) (p : α → Bool) : Prop := ∀ (x : α) (cs : List AV) (F : List Nat), x ∈ xs → Cel.rep h x cs F → RCalls P f (.agg cs :: caps) h (.bool (p x))
theorem idxI_spec {w : Nat} (hw : w = Cel.w α) {xs : List α} {x0 : AV} {F : List Nat} {f : FuncId} {caps : List AV} {p : α → Bool} (r : SlRep h x0 xs F) (hf : LooksI α P h f caps xs p) :
    (pIdxF w x0 (.fn f caps)).awp P h (Post (.int .i64 (idx p xs)) h) := by
  subst hw
  have hsm := r.small
  have hpos := Cel.pos (α := α)
  unfold pIdxF
  refine aw_len r ?_
  refine aw_upto xs.length (fun i vs h1 => vs = [.int .i64 (i : Int)] ∧ i ≤ xs.length ∧ h1 = h ∧ ∀ j y, j < i → xs[j]? = some y → p y = false) ⟨rfl, Nat.zero_le _, rfl, fun j y hj => by omega⟩ ?_
  rintro i vs h1 _ ⟨rfl, hi, rfl, hn⟩
  refine aw_lss ?_ ?_
  · intro hlt
    have hlt : i < xs.length := by simp [g] at hlt; exact hlt
    obtain ⟨x, hx, _, htk⟩ := drop_step hlt
    refine aw_ite_t (aw_idx r hx rfl ?_)
    intro bb o cs Fi a rx _
    refine aw_ldn_at a (Ext.refl _) hpos (by rw [List.take_of_length_le (by rw [Cel.len rx]; exact Nat.le_refl _)]) (Cel.len rx) (aw_rcallv (hf x cs Fi (List.mem_of_getElem? hx) rx) (aw_ite ?_ ?_))
    · intro hp
      exact aw_fin1 ⟨rfl, by rw [idx_at hx hp hn]; rfl, Ext.refl _⟩
    · intro hp
      refine aw_inc (j := i) (by omega) ?_
      refine aw_leaf (nexts ?_)
      refine ⟨hlt, rfl, hlt, rfl, fun j y hj hy => ?_⟩
      by_cases e : j = i
      · subst e; rw [hx] at hy; cases hy; exact hp
      · exact hn j y (by omega) hy
  · intro hge
    have : i = xs.length := by simp [g] at hge; omega
    subst this
    exact aw_ite_f (aw_leaf (ends2 (aw_fin1 ⟨rfl, by rw [idx_no hn], Ext.refl _⟩)))
end

section
variable {P : Program} {h : AH} {Q : Nat → List AV → AH → Prop} {k : AV → Prog}
theorem aw_setI {n : Nat} {z y : Int} {v : AV} {xs : List Int} {F : List Nat} (r : SlRep h v xs F) (o : Own n h F) (hz : 0 ≤ z) (hl : z < xs.length)
    (hk : ∀ h', (∀ h0, Ext h0 h → h0.n ≤ n → Ext h0 h') → Kp h h' F → h'.n = h.n → SlRep h' v (xs.set z.toNat y) F → Own n h' F → (k (.tup [])).awp P h' Q) :
    (Prog.op (.idx 1 v (.int .i64 z)) fun a => .op (.st 1 a (.int .i64 y)) k).awp P h Q := by
  obtain ⟨x, hx, -, -⟩ := drop_step (show z.toNat < xs.length by omega)
  obtain ⟨b, off, A, E, R, F1, Fi, F2, rfl, rfl, hb, hlv, hes, hcs, hA, ⟨rfl, rfl⟩, back⟩ := r.zip hx
  have hnd := List.nodup_cons.1 o.1
  have hmi : (h.get b).st = 0 := (o.2 b (by simp)).2
  have hg : h.get b = ⟨A ++ ([.int .i64 x] ++ R), 1, 0⟩ := by
    have : h.get b = ⟨(h.get b).cells, (h.get b).es, (h.get b).st⟩ := rfl
    rw [this, hcs, hes, hmi]; rfl
  have hkp : Kp h (h.upd b ⟨A ++ ([.int .i64 y] ++ R), 1, 0⟩) (b :: (F1 ++ ([] ++ F2))) := ⟨by simp, fun c hc hn => by
    have : c ≠ b := fun e => hn (by simp [e])
    simp [this]⟩
  have e1 : z = ((z.toNat : Nat) : Int) := by omega
  rw [e1]
  refine aw_idx_raw (by omega) ?_
  refine w_stz (j := 0) (E := [.int .i64 x]) (E' := [.int .i64 y]) hg hA rfl rfl ⟨by simp, by simp [splice]⟩ ?_
  refine hk _ (fun h0 e hn0 => hkp.ext e fun c hc => by have := (o.2 c hc).1; omega) hkp (by simp) ?_ ⟨o.1, fun c hc => ⟨(o.2 c hc).1, ?_⟩⟩
  · refine back _ y [.int .i64 y] [] (by simp) (by simp; rfl) (by simp [live]) (by simpa using hb) (fun c hc => ?_) ⟨rfl, rfl⟩
    have h1 : c ≠ b := fun e => hnd.1 (by subst e; simpa using hc)
    exact ⟨by simp [h1], by simpa using r.lt c (by rcases List.mem_append.1 hc with hc | hc <;> simp [hc])⟩
  · by_cases e : c = b
    · subst e; simp
    · simp [e]; exact (o.2 c hc).2
end
end Go.Ab
end
