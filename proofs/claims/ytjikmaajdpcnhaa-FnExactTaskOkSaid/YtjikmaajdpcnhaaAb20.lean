/- What is told of heaps: extensions, readers, and what stands for a value. -/
import Derived.Test.YtjikmaajdpcnhaaAb13
set_option linter.unusedSimpArgs false
set_option linter.unusedVariables false
namespace Go.Ab
open Go.RowKit

/-! ### Heaps that keep what there was -/

def Ext (h h' : AH) : Prop := h.n ≤ h'.n ∧ ∀ b, b < h.n → h'.get b = h.get b
theorem Ext.refl (h : AH) : Ext h h := ⟨Nat.le_refl _, fun _ _ => rfl⟩
theorem Ext.trans {a b c : AH} (x : Ext a b) (y : Ext b c) : Ext a c := ⟨Nat.le_trans x.1 y.1, fun k hk => (y.2 k (Nat.lt_of_lt_of_le hk x.1)).trans (x.2 k hk)⟩
theorem Ext.push {a b : AH} (x : Ext a b) (k : Blk) : Ext a (b.push k) :=
  ⟨Nat.le_trans x.1 (Nat.le_succ _), fun i hi => by
    have : i ≠ b.n := by have := x.1; omega
    simp only [AH.push, this, if_false]; exact x.2 i hi⟩
theorem Ext.upd {a b : AH} (x : Ext a b) {i : Nat} (hi : a.n ≤ i) (k : Blk) : Ext a (b.upd i k) :=
  ⟨x.1, fun j hj => by
    have : j ≠ i := by omega
    simp only [AH.upd, this, if_false]; exact x.2 j hj⟩

@[simp] theorem push_n (h : AH) (k : Blk) : (h.push k).n = h.n + 1 := rfl
@[simp] theorem upd_n (h : AH) (b : Nat) (k : Blk) : (h.upd b k).n = h.n := rfl
@[simp] theorem push_get (h : AH) (k : Blk) (i : Nat) : (h.push k).get i = if i = h.n then k else h.get i := rfl
@[simp] theorem upd_get (h : AH) (b : Nat) (k : Blk) (i : Nat) : (h.upd b k).get i = if i = b then k else h.get i := rfl

/-! ### Readers -/

mutual
def old (n : Nat) : AV → Prop
  | .ptr b _ => b < n
  | .sl b _ _ => b < n
  | .fn _ caps => olds n caps
  | .agg vs => olds n vs
  | .tup vs => olds n vs
  | _ => True
def olds (n : Nat) : List AV → Prop
  | [] => True
  | v :: vs => old n v ∧ olds n vs
end

mutual
theorem VRel.down {n : Nat} {m m' : BM} (hm : ∀ b, b < n → m' b = m b) : ∀ (a : AV) (v : Value), old n a → VRel m' a v → VRel m a v
  | .int .., v, _, r => by simpa only [VRel] using r
  | .bool .., v, _, r => by simpa only [VRel] using r
  | .str .., v, _, r => by simpa only [VRel] using r
  | .nilp, v, _, r => by simpa only [VRel] using r
  | .nils, v, _, r => by simpa only [VRel] using r
  | .un, v, _, r => by simp only [VRel]
  | .ptr b off, v, o, r => by
    simp only [old] at o
    simp only [VRel, hm b o] at r ⊢; exact r
  | .sl b off len, v, o, r => by
    simp only [old] at o
    simp only [VRel, hm b o] at r ⊢; exact r
  | .fn f caps, v, o, r => by
    simp only [old] at o
    simp only [VRel] at r ⊢
    obtain ⟨l, hl, hv⟩ := r
    exact ⟨l, VRels.down hm caps l o hl, hv⟩
  | .agg vs, v, o, r => by
    simp only [old] at o
    simp only [VRel] at r ⊢
    obtain ⟨l, hl, hv⟩ := r
    exact ⟨l, VRels.down hm vs l o hl, hv⟩
  | .tup vs, v, o, r => by
    simp only [old] at o
    simp only [VRel] at r ⊢
    obtain ⟨l, hl, hv⟩ := r
    exact ⟨l, VRels.down hm vs l o hl, hv⟩
theorem VRels.down {n : Nat} {m m' : BM} (hm : ∀ b, b < n → m' b = m b) : ∀ (a : List AV) (v : List Value), olds n a → VRels m' a v → VRels m a v
  | [], l, _, r => by simpa only [VRels] using r
  | a :: as, l, o, r => by
    simp only [olds] at o
    simp only [VRels] at r ⊢
    obtain ⟨v, vs, hl, hv, hvs⟩ := r
    exact ⟨v, vs, hl, VRel.down hm a v o.1 hv, VRels.down hm as vs o.2 hvs⟩
end
mutual
theorem VRel.isOld {n : Nat} {m : BM} (hm : ∀ b p, m b = some p → b < n) : ∀ (a : AV) (v : Value), VRel m a v → old n a
  | .int .., v, r => by simp only [old]
  | .bool .., v, r => by simp only [old]
  | .str .., v, r => by simp only [old]
  | .nilp, v, r => by simp only [old]
  | .nils, v, r => by simp only [old]
  | .un, v, r => by simp only [old]
  | .ptr b off, v, r => by
    simp only [VRel] at r; simp only [old]
    obtain ⟨p, hp, _⟩ := r; exact hm b p hp
  | .sl b off len, v, r => by
    simp only [VRel] at r; simp only [old]
    obtain ⟨p, _, _, hp, _⟩ := r; exact hm b p hp
  | .fn f caps, v, r => by
    simp only [VRel] at r; simp only [old]
    obtain ⟨l, hl, hv⟩ := r
    exact VRels.isOld hm caps l hl
  | .agg vs, v, r => by
    simp only [VRel] at r; simp only [old]
    obtain ⟨l, hl, hv⟩ := r
    exact VRels.isOld hm vs l hl
  | .tup vs, v, r => by
    simp only [VRel] at r; simp only [old]
    obtain ⟨l, hl, hv⟩ := r
    exact VRels.isOld hm vs l hl
theorem VRels.isOld {n : Nat} {m : BM} (hm : ∀ b p, m b = some p → b < n) : ∀ (a : List AV) (v : List Value), VRels m a v → olds n a
  | [], l, r => by simp only [olds]
  | a :: as, l, r => by
    simp only [VRels] at r
    simp only [olds]
    obtain ⟨v, vs, hl, hv, hvs⟩ := r
    exact ⟨VRel.isOld hm a v hv, VRels.isOld hm as vs hvs⟩
end

/-- What was made since, and nobody names, may be forgotten. -/
theorem Sim.forget {B : Nat} {w0 w w' : World} {m m' : BM} {h h' : AH} (s : Sim B w0 m h w) (s' : Sim B w0 m' h' w') (e : Ext h h') (hm : ∀ b, b < h.n → m' b = m b) : Sim B w0 m h w' := by
  have up : ∀ b p, m b = some p → m' b = some p ∧ h'.get b = h.get b := fun b p hp => ⟨by rw [hm b (s.dom b p hp)]; exact hp, e.2 b (s.dom b p hp)⟩
  refine ⟨s'.below, s'.room, s.dom, ?_, ?_, s.old, s.sep, s.sts, s.fresh⟩
  · intro b p hp hx
    obtain ⟨h1, h2⟩ := up b p hp
    have r := s'.blk b p h1 (by rw [h2]; exact hx)
    rw [h2] at r
    refine ⟨r.1, fun i v hv => ?_⟩
    obtain ⟨v', g1, g2, g3⟩ := r.2 i v hv
    obtain ⟨u, _, k2, _⟩ := (s.blk b p hp hx).2 i v hv
    exact ⟨v', g1, VRel.down hm v v' (VRel.isOld s.dom v u k2) g2, g3⟩
  · intro b p hp hx
    obtain ⟨h1, h2⟩ := up b p hp
    have r := s'.own b p h1 (by rw [h2]; exact hx)
    rw [h2] at r; exact r

/-- A reader: it hands back a value, and leaves the heap as it was. -/
def RCalls (P : Program) (f : FuncId) (args : List AV) (h : AH) (r : AV) : Prop := ACalls P f args h fun v h' => v = r ∧ h' = h

theorem rcalls_of {P : Program} {f : FuncId} {args : List AV} {h : AH} {r : AV} (c : ACalls P f args h fun v h' => v = r ∧ Ext h h') (ho : old h.n r) : RCalls P f args h r :=
  ⟨c.1, fun B w0 m w l s hl => (c.2 B w0 m w l s hl).mono fun e w' ⟨v, a, m', h', h1, h2, h3, h4, h5, h6⟩ => by
    subst h5
    exact ⟨v, _, m, h, h1, Grow.refl _ _, s.forget h3 h6 h2.2, VRel.down h2.2 _ _ ho h4, rfl, rfl⟩⟩

/-- What holds, as a bool. -/
noncomputable def bp (p : Prop) : Bool := @decide p (Classical.propDecidable p)
theorem bp_iff {p : Prop} : bp p = true ↔ p := by
  letI := Classical.propDecidable p
  unfold bp; simp
theorem bp_t {p : Prop} (hp : p) : bp p = true := bp_iff.2 hp
theorem bp_f {p : Prop} (hp : ¬ p) : bp p = false := by
  cases h : bp p
  · rfl
  · exact absurd (bp_iff.1 h) hp

/-! ### The steps of a walk -/

section
variable {P : Program} {h : AH} {Q : Nat → List AV → AH → Prop} {k : AV → Prog}

theorem aw_call {f : FuncId} {args : List AV} {R : AV → AH → Prop} (c : ACalls P f args h R) (hk : ∀ v h', R v h' → (k v).awp P h' Q) : (Prog.op (.call f args) k).awp P h Q := c.mono hk
theorem aw_rcall {f : FuncId} {args : List AV} {r : AV} (c : RCalls P f args h r) (hk : (k r).awp P h Q) : (Prog.op (.call f args) k).awp P h Q := c.mono fun v h' ⟨h1, h2⟩ => by subst h1; subst h2; exact hk
theorem aw_rcall_b {f : FuncId} {args : List AV} {r : Bool} (c : RCalls P f args h (.bool r)) (h1 : r = true → (k (.bool true)).awp P h Q) (h2 : r = false → (k (.bool false)).awp P h Q) : (Prog.op (.call f args) k).awp P h Q := aw_rcall c (by
  cases r
  · exact h2 rfl
  · exact h1 rfl)
theorem aw_rcallv {f : FuncId} {caps args : List AV} {r : AV} (c : RCalls P f (args ++ caps) h r) (hk : (k r).awp P h Q) : (Prog.op (.callv (.fn f caps) args) k).awp P h Q := c.mono fun v h' ⟨h1, h2⟩ => by subst h1; subst h2; exact hk
theorem aw_mv {x : AV} (hk : (k x).awp P h Q) : (Prog.op (.mv x) k).awp P h Q := hk
theorem aw_pick {c : Bool} {x y : AV} (hk : (k (if c then x else y)).awp P h Q) : (Prog.op (.pick (.bool c) x y) k).awp P h Q := hk
theorem aw_pick_t {x y : AV} (hk : (k x).awp P h Q) : (Prog.op (.pick (.bool true) x y) k).awp P h Q := hk
theorem aw_pick_f {x y : AV} (hk : (k y).awp P h Q) : (Prog.op (.pick (.bool false) x y) k).awp P h Q := hk
theorem aw_alloc {cs : List AV} (hk : (k (.ptr h.n 0)).awp P (h.push ⟨cs, 0, 0⟩) Q) : (Prog.op (.alloc cs) k).awp P h Q := hk
theorem aw_box {x : AV} {cs : List AV} (hc : x.cells? = some cs) (hk : (k (.ptr h.n 0)).awp P (h.push ⟨cs, 0, 0⟩) Q) : (Prog.op (.box x) k).awp P h Q := by
  simp only [Prog.awp, AOp.go, hc]; exact hk
theorem aw_fad {b o off : Nat} (hk : (k (.ptr b (o + off))).awp P h Q) : (Prog.op (.fad off (.ptr b o)) k).awp P h Q := hk
theorem aw_ld1 {b o : Nat} {v : AV} (hc : (h.get b).cells[o]? = some v) (hl : live h b) (hk : (k v).awp P h Q) : (Prog.op (.ld1 (.ptr b o)) k).awp P h Q := by
  simp only [Prog.awp, AOp.go, hc]; exact ⟨hl, hk⟩
theorem aw_ldn {n b o : Nat} {cs : List AV} (hc : ((h.get b).cells.drop o).take n = cs) (h0 : 0 < n) (hn : cs.length = n) (hl : live h b) (hk : (k (.agg cs)).awp P h Q) : (Prog.op (.ldn n (.ptr b o)) k).awp P h Q := by
  simp only [Prog.awp, AOp.go, hc]
  refine ⟨hl, ?_, hk⟩
  subst hc
  simp only [List.length_take, List.length_drop] at hn
  omega
theorem aw_st {n b o : Nat} {x : AV} {xs : List AV} (hm : mine h b) (hx : x.cells? = some xs) (hn : xs.length = n) (ho : o + n ≤ (h.get b).cells.length) (hk : (k (.tup [])).awp P (h.upd b { h.get b with cells := splice (h.get b).cells o xs }) Q) : (Prog.op (.st n (.ptr b o) x) k).awp P h Q := by
  simp only [Prog.awp, AOp.go, hx]; exact ⟨hm, hn, ho, hk⟩

theorem aw_lss {q : IntKind} {a b : Int} (h1 : a < b → (k (.bool true)).awp P h Q) (h2 : ¬ (a < b) → (k (.bool false)).awp P h Q) : (Prog.op (.bin 0 .lss (.int q a) (.int q b)) k).awp P h Q := by
  simp only [Prog.awp, AOp.go, binOk, abin, if_true]
  by_cases e : a < b
  · simp only [e, decide_true]; exact h1 e
  · simp only [e, decide_false]; exact h2 e
theorem aw_leq {q : IntKind} {a b : Int} (h1 : a ≤ b → (k (.bool true)).awp P h Q) (h2 : ¬ (a ≤ b) → (k (.bool false)).awp P h Q) : (Prog.op (.bin 0 .leq (.int q a) (.int q b)) k).awp P h Q := by
  simp only [Prog.awp, AOp.go, binOk, abin, if_true]
  by_cases e : a ≤ b
  · simp only [e, decide_true]; exact h1 e
  · simp only [e, decide_false]; exact h2 e
theorem aw_gtr {q : IntKind} {a b : Int} (h1 : b < a → (k (.bool true)).awp P h Q) (h2 : ¬ (b < a) → (k (.bool false)).awp P h Q) : (Prog.op (.bin 0 .gtr (.int q a) (.int q b)) k).awp P h Q := by
  simp only [Prog.awp, AOp.go, binOk, abin, if_true]
  by_cases e : b < a
  · simp only [e, decide_true]; exact h1 e
  · simp only [e, decide_false]; exact h2 e
theorem aw_geq {q : IntKind} {a b : Int} (h1 : b ≤ a → (k (.bool true)).awp P h Q) (h2 : ¬ (b ≤ a) → (k (.bool false)).awp P h Q) : (Prog.op (.bin 0 .geq (.int q a) (.int q b)) k).awp P h Q := by
  simp only [Prog.awp, AOp.go, binOk, abin, if_true]
  by_cases e : b ≤ a
  · simp only [e, decide_true]; exact h1 e
  · simp only [e, decide_false]; exact h2 e
theorem aw_eql {q : IntKind} {a b : Int} (h1 : a = b → (k (.bool true)).awp P h Q) (h2 : ¬ (a = b) → (k (.bool false)).awp P h Q) : (Prog.op (.bin 0 .eql (.int q a) (.int q b)) k).awp P h Q := by
  simp only [Prog.awp, AOp.go, binOk, abin, if_true]
  by_cases e : a = b
  · simp only [e, decide_true]; exact h1 e
  · simp only [e, decide_false]; exact h2 e
theorem aw_neq {q : IntKind} {a b : Int} (h1 : a ≠ b → (k (.bool true)).awp P h Q) (h2 : a = b → (k (.bool false)).awp P h Q) : (Prog.op (.bin 0 .neq (.int q a) (.int q b)) k).awp P h Q := by
  simp only [Prog.awp, AOp.go, binOk, abin, if_true]
  by_cases e : a = b
  · simp only [e, decide_true, Bool.not_true]; exact h2 e
  · simp only [e, decide_false, Bool.not_false]; exact h1 e
theorem aw_seql {a b : ByteArray} (h1 : a = b → (k (.bool true)).awp P h Q) (h2 : ¬ (a = b) → (k (.bool false)).awp P h Q) : (Prog.op (.bin 1 .eql (.str a) (.str b)) k).awp P h Q := by
  simp only [Prog.awp, AOp.go, binOk, abin, if_true]
  by_cases e : a = b
  · simp only [e, decide_true]; exact h1 e
  · simp only [e, decide_false]; exact h2 e
theorem aw_sneq {a b : ByteArray} (h1 : a ≠ b → (k (.bool true)).awp P h Q) (h2 : a = b → (k (.bool false)).awp P h Q) : (Prog.op (.bin 1 .neq (.str a) (.str b)) k).awp P h Q := by
  simp only [Prog.awp, AOp.go, binOk, abin, if_true]
  by_cases e : a = b
  · simp only [e, decide_true, Bool.not_true]; exact h2 e
  · simp only [e, decide_false, Bool.not_false]; exact h1 e
theorem aw_beql {a b : Bool} (hk : (k (.bool (a == b))).awp P h Q) : (Prog.op (.bin 2 .eql (.bool a) (.bool b)) k).awp P h Q := hk
theorem aw_bneq {a b : Bool} (hk : (k (.bool (!(a == b)))).awp P h Q) : (Prog.op (.bin 2 .neq (.bool a) (.bool b)) k).awp P h Q := hk
theorem wrap_id {n : Int} (h1 : -9223372036854775808 ≤ n) (h2 : n ≤ 9223372036854775807) : IntKind.i64.wrap n = n := by
  rw [IntKind.wrap_i64]; omega
theorem aw_addw {q : IntKind} {a b : Int} (hk : (k (.int q (q.wrap (a + b)))).awp P h Q) : (Prog.op (.bin 0 .add (.int q a) (.int q b)) k).awp P h Q := by
  simpa only [Prog.awp, AOp.go, binOk, abin, if_true] using hk
theorem aw_addn {a b : Int} (h1 : -9223372036854775808 ≤ a + b) (h2 : a + b ≤ 9223372036854775807) (hk : (k (.int .i64 (a + b))).awp P h Q) : (Prog.op (.bin 0 .add (.int .i64 a) (.int .i64 b)) k).awp P h Q := aw_addw (by rw [wrap_id h1 h2]; exact hk)
theorem aw_subw {q : IntKind} {a b : Int} (hk : (k (.int q (q.wrap (a - b)))).awp P h Q) : (Prog.op (.bin 0 .sub (.int q a) (.int q b)) k).awp P h Q := by
  simpa only [Prog.awp, AOp.go, binOk, abin, if_true] using hk
theorem aw_subn {a b : Int} (h1 : -9223372036854775808 ≤ a - b) (h2 : a - b ≤ 9223372036854775807) (hk : (k (.int .i64 (a - b))).awp P h Q) : (Prog.op (.bin 0 .sub (.int .i64 a) (.int .i64 b)) k).awp P h Q := aw_subw (by rw [wrap_id h1 h2]; exact hk)
theorem aw_mulw {q : IntKind} {a b : Int} (hk : (k (.int q (q.wrap (a * b)))).awp P h Q) : (Prog.op (.bin 0 .mul (.int q a) (.int q b)) k).awp P h Q := by
  simpa only [Prog.awp, AOp.go, binOk, abin, if_true] using hk
theorem aw_rem {q : IntKind} {a b : Int} (hb : b ≠ 0) (hk : (k (.int q (a.tmod b))).awp P h Q) : (Prog.op (.bin 0 .rem (.int q a) (.int q b)) k).awp P h Q := by
  simpa only [Prog.awp, AOp.go, binOk, abin, if_true, hb, ne_eq, not_false_eq_true, and_self] using hk
theorem aw_quow {q : IntKind} {a b : Int} (hb : b ≠ 0) (hk : (k (.int q (q.wrap (a.tdiv b)))).awp P h Q) : (Prog.op (.bin 0 .quo (.int q a) (.int q b)) k).awp P h Q := by
  simpa only [Prog.awp, AOp.go, binOk, abin, if_true, hb, ne_eq, not_false_eq_true, and_self] using hk
theorem aw_not {b : Bool} (hk : (k (.bool (!b))).awp P h Q) : (Prog.op (.una .not (.bool b)) k).awp P h Q := hk
theorem aw_not_t (hk : (k (.bool false)).awp P h Q) : (Prog.op (.una .not (.bool true)) k).awp P h Q := hk
theorem aw_not_f (hk : (k (.bool true)).awp P h Q) : (Prog.op (.una .not (.bool false)) k).awp P h Q := hk
theorem aw_ext {vs : List AV} {i : Nat} {v : AV} (hv : vs[i]? = some v) (hk : (k v).awp P h Q) : (Prog.op (.ext (.tup vs) i) k).awp P h Q := by
  simp only [Prog.awp, AOp.go, hv]; exact hk
theorem aw_mkfn {f : Nat} {caps : List AV} (hk : (k (.fn f caps)).awp P h Q) : (Prog.op (.mkfn f caps) k).awp P h Q := hk
theorem aw_conv {q q' : IntKind} {n : Int} (hk : (k (.int q (q.wrap n))).awp P h Q) : (Prog.op (.conv q (.int q' n)) k).awp P h Q := hk
theorem aw_fld1 {off : Nat} {vs : List AV} {v : AV} (hv : vs[off]? = some v) (hk : (k v).awp P h Q) : (Prog.op (.fld1 off (.agg vs)) k).awp P h Q := by
  simp only [Prog.awp, AOp.go, hv]; exact hk
theorem aw_len_str {s : ByteArray} (hk : (k (.int .i64 s.size)).awp P h Q) : (Prog.op (.len 1 (.str s)) k).awp P h Q := hk
theorem aw_ite_t {p q : Prog} (hk : p.awp P h Q) : (Prog.ite (.bool true) p q).awp P h Q := hk
theorem aw_ite_f {p q : Prog} (hk : q.awp P h Q) : (Prog.ite (.bool false) p q).awp P h Q := hk
theorem aw_ite {b : Bool} {p q : Prog} (h1 : b = true → p.awp P h Q) (h2 : b = false → q.awp P h Q) : (Prog.ite (.bool b) p q).awp P h Q := by
  cases b
  · exact h2 rfl
  · exact h1 rfl
theorem aw_gop_tt {o : AOp} (hk : (Prog.op o k).awp P h Q) : (Prog.gop (.bool true) true o k).awp P h Q := hk
theorem aw_gop_ff {o : AOp} (hk : (Prog.op o k).awp P h Q) : (Prog.gop (.bool false) false o k).awp P h Q := by simpa [Prog.awp] using hk
theorem aw_gop_tf {o : AOp} (hk : (k (.tup [])).awp P h Q) : (Prog.gop (.bool true) false o k).awp P h Q := hk
theorem aw_gop_ft {o : AOp} (hk : (k (.tup [])).awp P h Q) : (Prog.gop (.bool false) true o k).awp P h Q := by simpa [Prog.awp] using hk
theorem aw_gop_un {w : Bool} {o : AOp} (hk : (k (.tup [])).awp P h Q) : (Prog.gop (.tup []) w o k).awp P h Q := hk
theorem aw_leaf {t : Nat} {vs : List AV} (hk : Q t vs h) : (Prog.leaf t vs).awp P h Q := hk
theorem aw_fin {rs : List RV} {vs : List AV} (hr : rvals h rs = some vs) (hk : Q 1 [retv vs] h) : (Prog.fin rs).awp P h Q := by
  simp only [Prog.awp, hr]; exact hk
theorem aw_fin1 {v : AV} (hk : Q 1 [v] h) : (Prog.fin [.val v]).awp P h Q := hk
theorem aw_fin2 {v u : AV} (hk : Q 1 [.tup [v, u]] h) : (Prog.fin [.val v, .val u]).awp P h Q := hk
theorem aw_scope {p : Prog} {kn : List AV → Prog} {ka : Nat → List AV → Prog} (hk : p.awp P h fun tag vs h' => if tag = 0 then (kn vs).awp P h' Q else (ka tag vs).awp P h' Q) : (Prog.scope p kn ka).awp P h Q := hk
theorem aw_chk {o : AOp} {v : AV} {p : Prog} (hs : o.still P v h) (hk : p.awp P h Q) : (Prog.chk o v p).awp P h Q := ⟨hs, hk⟩

theorem least {p : Nat → Prop} : ∀ n, p n → ∃ k, p k ∧ ∀ j, p j → k ≤ j := by
  intro n
  induction n using Nat.strongRecOn with
  | _ n ih =>
    intro hn
    by_cases e : ∃ j, j < n ∧ p j
    · obtain ⟨j, h1, h2⟩ := e; exact ih j h1 h2
    · refine ⟨n, hn, fun j hj => ?_⟩
      by_cases h : n ≤ j
      · exact h
      · exact absurd ⟨j, by omega, hj⟩ e

/-- A loop with a number that falls. -/
theorem aw_loop {init : List AV} {body : List AV → Prog} {ka : Nat → List AV → Prog} (I : Nat → List AV → AH → Prop) (n : Nat) (h0 : I n init h)
    (hr : ∀ n vs h1, I n vs h1 → (body vs).awp P h1 fun tag vs' h' => if tag = 0 then ∃ n', n' < n ∧ I n' vs' h' else (ka tag vs').awp P h' Q) : (Prog.loop init body ka).awp P h Q := by
  classical
  refine ⟨fun vs h => ∃ n, I n vs h, fun vs h => if g : ∃ k, I k vs h ∧ ∀ j, I j vs h → k ≤ j then g.choose else 0, ⟨n, h0⟩, ?_⟩
  rintro vs h1 ⟨n1, hI⟩
  have g1 := least (p := fun n => I n vs h1) n1 hI
  have key := hr g1.choose vs h1 g1.choose_spec.1
  refine Prog.awp_mono _ key fun t vs' h' gg => ?_
  split
  · rename_i ht
    rw [if_pos ht] at gg
    obtain ⟨n', hlt, hn⟩ := gg
    have g2 := least (p := fun n => I n vs' h') n' hn
    refine ⟨⟨n', hn⟩, ?_⟩
    simp only [dif_pos g1, dif_pos g2]
    exact Nat.lt_of_le_of_lt (g2.choose_spec.2 n' hn) hlt
  · rename_i ht
    rw [if_neg ht] at gg; exact gg

/-- A loop that counts up to 'n'. -/
theorem aw_upto {init : List AV} {body : List AV → Prog} {ka : Nat → List AV → Prog} (n : Nat) (J : Nat → List AV → AH → Prop) (h0 : J 0 init h)
    (hr : ∀ i vs h1, i ≤ n → J i vs h1 → (body vs).awp P h1 fun tag vs' h' => if tag = 0 then i < n ∧ J (i + 1) vs' h' else (ka tag vs').awp P h' Q) : (Prog.loop init body ka).awp P h Q := by
  refine aw_loop (fun k vs h => k ≤ n ∧ J (n - k) vs h) n ⟨Nat.le_refl _, by simpa using h0⟩ ?_
  rintro k vs h1 ⟨hk, hJ⟩
  refine Prog.awp_mono _ (hr (n - k) vs h1 (by omega) hJ) fun t vs' h' gg => ?_
  split
  · rename_i ht
    rw [if_pos ht] at gg
    exact ⟨k - 1, by omega, by omega, by have : n - (k - 1) = n - k + 1 := by omega
                                         rw [this]; exact gg.2⟩
  · rename_i ht
    rw [if_neg ht] at gg; exact gg
theorem g0 (a : AV) (vs : List AV) : g (a :: vs) 0 = a := rfl
theorem g1 (x0 x1 : AV) (vs : List AV) : g (x0 :: x1 :: vs) 1 = x1 := rfl
theorem g2 (x0 x1 x2 : AV) (vs : List AV) : g (x0 :: x1 :: x2 :: vs) 2 = x2 := rfl
theorem g3 (x0 x1 x2 x3 : AV) (vs : List AV) : g (x0 :: x1 :: x2 :: x3 :: vs) 3 = x3 := rfl
theorem g4 (x0 x1 x2 x3 x4 : AV) (vs : List AV) : g (x0 :: x1 :: x2 :: x3 :: x4 :: vs) 4 = x4 := rfl
theorem g5 (x0 x1 x2 x3 x4 x5 : AV) (vs : List AV) : g (x0 :: x1 :: x2 :: x3 :: x4 :: x5 :: vs) 5 = x5 := rfl
theorem g6 (x0 x1 x2 x3 x4 x5 x6 : AV) (vs : List AV) : g (x0 :: x1 :: x2 :: x3 :: x4 :: x5 :: x6 :: vs) 6 = x6 := rfl
theorem g7 (x0 x1 x2 x3 x4 x5 x6 x7 : AV) (vs : List AV) : g (x0 :: x1 :: x2 :: x3 :: x4 :: x5 :: x6 :: x7 :: vs) 7 = x7 := rfl
theorem g8 (x0 x1 x2 x3 x4 x5 x6 x7 x8 : AV) (vs : List AV) : g (x0 :: x1 :: x2 :: x3 :: x4 :: x5 :: x6 :: x7 :: x8 :: vs) 8 = x8 := rfl
theorem g9 (x0 x1 x2 x3 x4 x5 x6 x7 x8 x9 : AV) (vs : List AV) : g (x0 :: x1 :: x2 :: x3 :: x4 :: x5 :: x6 :: x7 :: x8 :: x9 :: vs) 9 = x9 := rfl
theorem g10 (x0 x1 x2 x3 x4 x5 x6 x7 x8 x9 x10 : AV) (vs : List AV) : g (x0 :: x1 :: x2 :: x3 :: x4 :: x5 :: x6 :: x7 :: x8 :: x9 :: x10 :: vs) 10 = x10 := rfl
theorem g11 (x0 x1 x2 x3 x4 x5 x6 x7 x8 x9 x10 x11 : AV) (vs : List AV) : g (x0 :: x1 :: x2 :: x3 :: x4 :: x5 :: x6 :: x7 :: x8 :: x9 :: x10 :: x11 :: vs) 11 = x11 := rfl
theorem g12 (x0 x1 x2 x3 x4 x5 x6 x7 x8 x9 x10 x11 x12 : AV) (vs : List AV) : g (x0 :: x1 :: x2 :: x3 :: x4 :: x5 :: x6 :: x7 :: x8 :: x9 :: x10 :: x11 :: x12 :: vs) 12 = x12 := rfl
theorem aw_nexts {X Y : Prop} (hx : X) : if (0 : Nat) = 0 then X else Y := by rw [if_pos rfl]; exact hx
theorem aw_ends {t : Nat} {X Y : Prop} (ht : t ≠ 0) (hy : Y) : if t = 0 then X else Y := by rw [if_neg ht]; exact hy
theorem aw_tsel_eq {n : Nat} {p q : Prog} (hk : p.awp P h Q) : (tsel n n p q).awp P h Q := by simpa [tsel] using hk
theorem aw_tsel_ne {t n : Nat} {p q : Prog} (hn : t ≠ n) (hk : q.awp P h Q) : (tsel t n p q).awp P h Q := by simpa [tsel, hn] using hk
theorem tsel_1 {n : Nat} {p q : Prog} : tsel n n p q = p := by simp [tsel]

end
end Go.Ab
