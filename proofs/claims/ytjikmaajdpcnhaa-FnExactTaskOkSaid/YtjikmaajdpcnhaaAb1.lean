/- The abstract heap of a Go run: values, blocks, and the relation between an abstract heap and a world. -/
import Derived.Calls
import Derived.Below
import Derived.Laws.CopyRow
import Derived.Laws.Cells
import Derived.Laws.Tables
import Derived.Laws.AppendOwn
set_option linter.unusedSimpArgs false
set_option linter.unusedVariables false
namespace Go.Ab
open Go.RowKit

inductive AV where
  | int (k : IntKind) (n : Int)
  | bool (b : Bool)
  | str (s : ByteArray)
  | ptr (b off : Nat)
  | nilp
  | sl (b off len : Nat)
  | nils
  | fn (f : Nat) (caps : List AV)
  | agg (vs : List AV)
  | tup (vs : List AV)
  | un
  deriving Inhabited

/-- st: 0 owned by the run, 1 read only, 2 dead. es: cells of an element (0: a variable's block). -/
structure Blk where
  cells : List AV
  es : Nat
  st : Nat

structure AH where
  n : Nat
  get : Nat → Blk

def AH.upd (h : AH) (b : Nat) (k : Blk) : AH := ⟨h.n, fun i => if i = b then k else h.get i⟩
def AH.push (h : AH) (k : Blk) : AH := ⟨h.n + 1, fun i => if i = h.n then k else h.get i⟩
def AH.kill (h : AH) (b : Nat) : AH := h.upd b { h.get b with st := 2 }

structure Pl where
  rb : Nat
  ro : Nat
  R : Nat
  es : Nat

abbrev BM := Nat → Option Pl
def BM.le (m m' : BM) : Prop := ∀ b p, m b = some p → m' b = some p
theorem BM.le_refl (m : BM) : m.le m := fun _ _ h => h
theorem BM.le_trans {a b c : BM} (h : a.le b) (k : b.le c) : a.le c := fun x p hx => k x p (h x p hx)
/-- The map told more, of new blocks alone. -/
def Grow (n : Nat) (m : BM) (n' : Nat) (m' : BM) : Prop := n ≤ n' ∧ ∀ b, b < n → m' b = m b
theorem Grow.refl (n : Nat) (m : BM) : Grow n m n m := ⟨Nat.le_refl _, fun _ _ => rfl⟩
theorem Grow.trans {n n' n'' : Nat} {m m' m'' : BM} (h : Grow n m n' m') (k : Grow n' m' n'' m'') : Grow n m n'' m'' :=
  ⟨Nat.le_trans h.1 k.1, fun b hb => (k.2 b (Nat.lt_of_lt_of_le hb h.1)).trans (h.2 b hb)⟩
def BM.add (m : BM) (b : Nat) (p : Pl) : BM := fun i => if i = b then some p else m i

mutual
def VRel (m : BM) : AV → Value → Prop
  | .int k n, v => v = .int k n
  | .bool b, v => v = .bool b
  | .str s, v => v = .string s
  | .ptr b off, v => ∃ p, m b = some p ∧ v = .pointer (some ⟨p.rb, p.ro + off, none⟩)
  | .nilp, v => v = .pointer none
  | .sl b off len, v => ∃ p a rcap, m b = some p ∧ v = .slice (some a) len rcap ∧ len ≤ rcap ∧ off + rcap * p.es = p.R ∧ (rcap = 0 ∨ a = ⟨p.rb, p.ro + off, none⟩)
  | .nils, v => v = .slice none 0 0
  | .fn f caps, v => ∃ l, VRels m caps l ∧ v = .func (.func f) #[] l.toArray
  | .agg vs, v => ∃ l, VRels m vs l ∧ (∀ x ∈ l, x.oneCell' = true) ∧ v = .agg l.toArray
  | .tup vs, v => ∃ l, VRels m vs l ∧ v = .tuple l.toArray
  | .un, _ => True
def VRels (m : BM) : List AV → List Value → Prop
  | [], l => l = []
  | a :: as, l => ∃ v vs, l = v :: vs ∧ VRel m a v ∧ VRels m as vs
end

mutual
theorem VRel.mono {m m' : BM} (h : m.le m') : ∀ (a : AV) (v : Value), VRel m a v → VRel m' a v
  | .int .., v, r => by simpa only [VRel] using r
  | .bool .., v, r => by simpa only [VRel] using r
  | .str .., v, r => by simpa only [VRel] using r
  | .nilp, v, r => by simpa only [VRel] using r
  | .nils, v, r => by simpa only [VRel] using r
  | .un, v, r => by simp only [VRel]
  | .ptr b off, v, r => by
    simp only [VRel] at r ⊢
    obtain ⟨p, hp, hv⟩ := r
    exact ⟨p, h _ _ hp, hv⟩
  | .sl b off len, v, r => by
    simp only [VRel] at r ⊢
    obtain ⟨p, a, rcap, hp, hv⟩ := r
    exact ⟨p, a, rcap, h _ _ hp, hv⟩
  | .fn f caps, v, r => by
    simp only [VRel] at r ⊢
    obtain ⟨l, hl, hv⟩ := r
    exact ⟨l, VRels.mono h caps l hl, hv⟩
  | .agg vs, v, r => by
    simp only [VRel] at r ⊢
    obtain ⟨l, hl, hv⟩ := r
    exact ⟨l, VRels.mono h vs l hl, hv⟩
  | .tup vs, v, r => by
    simp only [VRel] at r ⊢
    obtain ⟨l, hl, hv⟩ := r
    exact ⟨l, VRels.mono h vs l hl, hv⟩
theorem VRels.mono {m m' : BM} (h : m.le m') : ∀ (a : List AV) (v : List Value), VRels m a v → VRels m' a v
  | [], l, r => by simpa only [VRels] using r
  | a :: as, l, r => by
    simp only [VRels] at r ⊢
    obtain ⟨v, vs, hl, hv, hvs⟩ := r
    exact ⟨v, vs, hl, VRel.mono h a v hv, VRels.mono h as vs hvs⟩
end

theorem VRels.length {m : BM} : ∀ {as : List AV} {l : List Value}, VRels m as l → as.length = l.length
  | [], l, r => by simp only [VRels] at r; simp [r]
  | a :: as, l, r => by
    simp only [VRels] at r
    obtain ⟨v, vs, rfl, _, h⟩ := r
    simp [h.length]

theorem VRels.nil {m : BM} : VRels m [] [] := by simp only [VRels]
theorem VRels.cons {m : BM} {a : AV} {as : List AV} {v : Value} {vs : List Value} (h : VRel m a v) (hs : VRels m as vs) : VRels m (a :: as) (v :: vs) := by
  simp only [VRels]; exact ⟨v, vs, rfl, h, hs⟩
theorem VRels.cons_inv {m : BM} {a : AV} {as : List AV} {l : List Value} (h : VRels m (a :: as) l) : ∃ v vs, l = v :: vs ∧ VRel m a v ∧ VRels m as vs := by
  simpa only [VRels] using h

theorem VRels.get {m : BM} : ∀ {as : List AV} {l : List Value}, VRels m as l → ∀ (i : Nat) (a : AV), as[i]? = some a → ∃ v, l[i]? = some v ∧ VRel m a v
  | [], _, _, i, a, h => by simp at h
  | x :: xs, l, r, i, a, h => by
    obtain ⟨v, vs, rfl, hv, hvs⟩ := r.cons_inv
    cases i with
    | zero => simp at h; subst h; exact ⟨v, rfl, hv⟩
    | succ i => simp at h; simpa using VRels.get hvs i a h

theorem VRels.of_get {m : BM} : ∀ {as : List AV} {l : List Value}, as.length = l.length → (∀ (i : Nat) (a : AV) (v : Value), as[i]? = some a → l[i]? = some v → VRel m a v) → VRels m as l
  | [], l, hl, _ => by simp at hl; simp only [VRels]; exact List.length_eq_zero_iff.1 hl.symm
  | a :: as, [], hl, _ => by simp at hl
  | a :: as, v :: vs, hl, h => VRels.cons (h 0 a v rfl rfl) (VRels.of_get (by simpa using hl) fun i x y hx hy => h (i + 1) x y (by simpa using hx) (by simpa using hy))

theorem VRels.append {m : BM} : ∀ {as bs : List AV} {l k : List Value}, VRels m as l → VRels m bs k → VRels m (as ++ bs) (l ++ k)
  | [], bs, l, k, h, h2 => by simp only [VRels] at h; subst h; simpa using h2
  | a :: as, bs, l, k, h, h2 => by
    obtain ⟨v, vs, rfl, hv, hvs⟩ := h.cons_inv
    exact VRels.cons hv (VRels.append hvs h2)

theorem VRels.take {m : BM} {as : List AV} {l : List Value} (h : VRels m as l) (n : Nat) : VRels m (as.take n) (l.take n) := by
  refine VRels.of_get (by simp [h.length]) fun i a v ha hv => ?_
  rw [List.getElem?_take] at ha hv
  split at ha
  · rename_i hi
    rw [if_pos hi] at hv
    obtain ⟨v', h1, h2⟩ := h.get i a ha
    rw [h1] at hv; cases hv; exact h2
  · simp at ha
theorem VRels.drop {m : BM} {as : List AV} {l : List Value} (h : VRels m as l) (n : Nat) : VRels m (as.drop n) (l.drop n) := by
  refine VRels.of_get (by simp [h.length]) fun i a v ha hv => ?_
  rw [List.getElem?_drop] at ha hv
  obtain ⟨v', h1, h2⟩ := h.get _ a ha
  rw [h1] at hv; cases hv; exact h2

theorem vrel_int {m : BM} {k : IntKind} {n : Int} : VRel m (.int k n) (.int k n) := by simp only [VRel]
theorem vrel_bool {m : BM} {b : Bool} : VRel m (.bool b) (.bool b) := by simp only [VRel]
theorem vrel_str {m : BM} {s : ByteArray} : VRel m (.str s) (.string s) := by simp only [VRel]
theorem vrel_nils {m : BM} : VRel m .nils (.slice none 0 0) := by simp only [VRel]

def ext (k : Blk) (p : Pl) : Nat := max k.cells.length p.R

/-- What the world holds of a block. -/
def BRel (m : BM) (k : Blk) (p : Pl) (w : World) : Prop :=
  k.es = p.es ∧ ∀ i v, k.cells[i]? = some v → ∃ v', w.cell? ⟨p.rb, p.ro + i, none⟩ = some v' ∧ VRel m v v' ∧ v'.oneCell' = true
def ORel (B : Nat) (k : Blk) (p : Pl) (w : World) : Prop :=
  B ≤ p.rb ∧ (k.es ≠ 0 → k.cells.length ≤ p.R) ∧ ∃ c e, w.heap[p.rb]? = some (.cells c e (0, 0)) ∧ p.ro + ext k p ≤ c.size
def Apart (k : Blk) (p : Pl) (k' : Blk) (p' : Pl) : Prop :=
  p.rb ≠ p'.rb ∨ p.ro + ext k p ≤ p'.ro ∨ p'.ro + ext k' p' ≤ p.ro
theorem Apart.symm {k k' : Blk} {p p' : Pl} (h : Apart k p k' p') : Apart k' p' k p := by
  rcases h with h | h | h
  · exact .inl fun e => h e.symm
  · exact .inr (.inr h)
  · exact .inr (.inl h)

structure Sim (B : Nat) (w0 : World) (m : BM) (h : AH) (w : World) : Prop where
  below : Below B w0 w
  room : B ≤ w.heap.size
  dom : ∀ b p, m b = some p → b < h.n
  blk : ∀ b p, m b = some p → (h.get b).st ≠ 2 → BRel m (h.get b) p w
  own : ∀ b p, m b = some p → (h.get b).st = 0 → ORel B (h.get b) p w
  old : ∀ b p, m b = some p → (h.get b).st = 1 → p.rb < B ∨ (h.get b).cells = []
  sep : ∀ b b' p p', b ≠ b' → m b = some p → m b' = some p' → (h.get b).st = 0 → (h.get b').st = 0 → Apart (h.get b) p (h.get b') p'
  sts : ∀ b, (h.get b).st = 0 ∨ (h.get b).st = 1 ∨ (h.get b).st = 2
  fresh : ∀ b, h.n ≤ b → (h.get b).st = 2

variable {B : Nat} {w0 w w' : World} {m : BM} {h : AH}

theorem Grow.le {n' : Nat} {m' : BM} (g : Grow h.n m n' m') (s : Sim B w0 m h w) : m.le m' := fun b p hp => by rw [g.2 b (s.dom b p hp)]; exact hp
theorem grow_add (n : Nat) (m : BM) (p : Pl) : Grow n m (n + 1) (m.add n p) := ⟨by omega, fun b hb => by simp [BM.add]; omega⟩

theorem BRel.mono {m m' : BM} (hm : m.le m') {k : Blk} {p : Pl} (r : BRel m k p w) : BRel m' k p w :=
  ⟨r.1, fun i v hv => let ⟨v', h1, h2, h3⟩ := r.2 i v hv; ⟨v', h1, VRel.mono hm _ _ h2, h3⟩⟩

theorem Sim.drew (s : Sim B w0 m h w) (k : Nat) : Sim B w0 m h { w with drawn := k } :=
  ⟨⟨s.below.os, s.below.tape, s.below.output, s.below.size, s.below.block⟩, s.room, s.dom, fun b p hp hs => s.blk b p hp hs, fun b p hp hs => s.own b p hp hs, s.old, s.sep, s.sts, s.fresh⟩

/-- A block that nobody reads any more. -/
theorem Sim.kill (s : Sim B w0 m h w) (b : Nat) : Sim B w0 m (h.kill b) w := by
  have hst : ∀ x, ((h.kill b).get x).st ≠ 2 → x ≠ b ∧ (h.kill b).get x = h.get x := by
    intro x hx
    by_cases e : x = b
    · subst e; simp [AH.kill, AH.upd] at hx
    · exact ⟨e, by simp [AH.kill, AH.upd, e]⟩
  refine ⟨s.below, s.room, s.dom, ?_, ?_, ?_, ?_, ?_, ?_⟩
  · intro x p hp hx
    obtain ⟨_, e⟩ := hst x hx
    rw [e] at hx ⊢; exact s.blk x p hp hx
  · intro x p hp hx
    obtain ⟨_, e⟩ := hst x (by omega)
    rw [e] at hx ⊢; exact s.own x p hp hx
  · intro x p hp hx
    obtain ⟨_, e⟩ := hst x (by omega)
    rw [e] at hx ⊢; exact s.old x p hp hx
  · intro x y p p' hne hp hp' hx hy
    obtain ⟨_, e⟩ := hst x (by omega)
    obtain ⟨_, e'⟩ := hst y (by omega)
    rw [e] at hx ⊢; rw [e'] at hy ⊢; exact s.sep x y p p' hne hp hp' hx hy
  · intro x
    by_cases e : x = b
    · subst e; simp [AH.kill, AH.upd]
    · simp only [AH.kill, AH.upd, e, if_false]; exact s.sts x
  · intro x hx
    by_cases e : x = b
    · subst e; simp [AH.kill, AH.upd]
    · simp only [AH.kill, AH.upd, e, if_false]; exact s.fresh x hx

/-- A new block over real cells that no live block of the run's own covers. -/
theorem Sim.adopt (s : Sim B w0 m h w) (k : Blk) (p : Pl) (hst : k.st = 0) (ho : ORel B k p w) (hb : BRel (m.add h.n p) k p w)
    (hs : ∀ b p', m b = some p' → (h.get b).st = 0 → Apart (h.get b) p' k p) :
    Grow h.n m (h.n + 1) (m.add h.n p) ∧ Sim B w0 (m.add h.n p) (h.push k) w := by
  have hle : m.le (m.add h.n p) := by
    intro b q hq
    have : b ≠ h.n := fun e => by have := s.dom b q hq; omega
    simp [BM.add, this, hq]
  have old : ∀ b q, b ≠ h.n → m.add h.n p b = some q → m b = some q ∧ (h.push k).get b = h.get b := by
    intro b q hne hq
    simp only [BM.add, hne, if_false] at hq
    exact ⟨hq, by simp [AH.push, hne]⟩
  have new : ∀ q, m.add h.n p h.n = some q → q = p ∧ (h.push k).get h.n = k := by
    intro q hq
    simp only [BM.add, if_true, Option.some.injEq] at hq
    exact ⟨hq.symm, by simp [AH.push]⟩
  refine ⟨grow_add _ _ _, s.below, s.room, ?_, ?_, ?_, ?_, ?_, ?_, ?_⟩
  · intro b q hq
    by_cases e : b = h.n
    · subst e; simp [AH.push]
    · have := s.dom b q (old b q e hq).1; simp only [AH.push]; omega
  · intro b q hq hx
    by_cases e : b = h.n
    · subst e
      obtain ⟨rfl, e2⟩ := new q hq
      rw [e2]; exact hb
    · obtain ⟨h1, h2⟩ := old b q e hq
      rw [h2] at hx ⊢
      exact (s.blk b q h1 hx).mono hle
  · intro b q hq hx
    by_cases e : b = h.n
    · subst e
      obtain ⟨rfl, e2⟩ := new q hq
      rw [e2]; exact ho
    · obtain ⟨h1, h2⟩ := old b q e hq
      rw [h2] at hx ⊢
      exact s.own b q h1 hx
  · intro b q hq hx
    by_cases e : b = h.n
    · subst e
      obtain ⟨rfl, e2⟩ := new q hq
      rw [e2] at hx; omega
    · obtain ⟨h1, h2⟩ := old b q e hq
      rw [h2] at hx ⊢
      exact s.old b q h1 hx
  · intro b b' q q' hne hq hq' hx hx'
    by_cases e : b = h.n
    · subst e
      obtain ⟨rfl, e2⟩ := new q hq
      obtain ⟨h1, h2⟩ := old b' q' (fun e => hne e.symm) hq'
      rw [h2] at hx' ⊢; rw [e2]
      exact (hs b' q' h1 hx').symm
    · obtain ⟨h1, h2⟩ := old b q e hq
      rw [h2] at hx ⊢
      by_cases e' : b' = h.n
      · subst e'
        obtain ⟨rfl, e2⟩ := new q' hq'
        rw [e2]
        exact hs b q h1 hx
      · obtain ⟨h1', h2'⟩ := old b' q' e' hq'
        rw [h2'] at hx' ⊢
        exact s.sep b b' q q' hne h1 h1' hx hx'
  · intro b
    by_cases e : b = h.n
    · subst e; simp [AH.push, hst]
    · simp only [AH.push, e, if_false]; exact s.sts b
  · intro b hb
    have e : b ≠ h.n := fun e => by simp only [AH.push] at hb; omega
    simp only [AH.push, e, if_false] at hb ⊢
    exact s.fresh b (by omega)

/-- Real cells are written that no live block covers but, maybe, one that is told anew. -/
theorem Sim.scribble (s : Sim B w0 m h w) {rb : Nat} (hrb : B ≤ rb) {c c' : Array Value} {e : TypeId} (hc : w.heap[rb]? = some (.cells c e (0, 0))) (hsz : c'.size = c.size)
    (hs : ∀ b p, m b = some p → (h.get b).st = 0 → p.rb = rb → ∀ i, i < ext (h.get b) p → c'[p.ro + i]? = c[p.ro + i]?) :
    Sim B w0 m h (w.setRow rb c') := by
  have hnew := setRow_heap w rb c c' e (0, 0) hc
  have hoth : ∀ k, k ≠ rb → (w.setRow rb c').heap[k]? = w.heap[k]? := fun k hk => setRow_other w rb k c' hk
  refine ⟨s.below.trans ⟨rfl, rfl, rfl, by simp, fun k hk => hoth k (by omega)⟩, by simpa using s.room, s.dom, ?_, ?_, s.old, s.sep, s.sts, s.fresh⟩
  · intro b p hp hx
    have hb := s.blk b p hp hx
    by_cases e1 : p.rb = rb
    · refine ⟨hb.1, fun i v hv => ?_⟩
      have h0 : (h.get b).st = 0 := by
        rcases s.sts b with g | g | g
        · exact g
        · rcases s.old b p hp g with g' | g'
          · omega
          · rw [g'] at hv; cases hv
        · exact absurd g hx
      obtain ⟨v', h1, h2, h3⟩ := hb.2 i v hv
      refine ⟨v', ?_, h2, h3⟩
      have hi : i < ext (h.get b) p := by
        have := (List.getElem?_eq_some_iff.1 hv).1
        unfold ext; omega
      have := hs b p hp h0 e1 i hi
      simp only [World.cell?, e1, hnew, hc] at h1 ⊢
      simpa [this] using h1
    · refine ⟨hb.1, fun i v hv => ?_⟩
      obtain ⟨v', h1, h2, h3⟩ := hb.2 i v hv
      exact ⟨v', by rw [World.cell?_of_block (w := w) (hoth _ e1)]; exact h1, h2, h3⟩
  · intro b p hp hx
    obtain ⟨h1, h2, cc, ee, h3, h4⟩ := s.own b p hp hx
    by_cases e1 : p.rb = rb
    · refine ⟨h1, h2, c', e, by rw [e1]; exact hnew, ?_⟩
      rw [e1, hc] at h3
      cases h3
      rw [hsz]; exact h4
    · exact ⟨h1, h2, cc, ee, by rw [hoth _ e1]; exact h3, h4⟩

/-- A store into a block of the run's own. -/
theorem Sim.write (s : Sim B w0 m h w) {b : Nat} {p : Pl} (hp : m b = some p) (hst : (h.get b).st = 0) {c c' : Array Value} {e : TypeId} (hc : w.heap[p.rb]? = some (.cells c e (0, 0))) (hsz : c'.size = c.size)
    (cs : List AV) (hl : cs.length = (h.get b).cells.length)
    (hn : ∀ (i : Nat) (v : AV), cs[i]? = some v → ∃ v' : Value, c'[p.ro + i]? = some v' ∧ VRel m v v' ∧ v'.oneCell' = true)
    (hs : ∀ j, j < p.ro ∨ p.ro + (h.get b).cells.length ≤ j → c'[j]? = c[j]?) :
    Sim B w0 m (h.upd b { h.get b with cells := cs }) (w.setRow p.rb c') := by
  obtain ⟨ho, ho2, _, _, ho3, ho4⟩ := s.own b p hp hst
  rw [hc] at ho3; cases ho3
  have hnew := setRow_heap w p.rb c c' e (0, 0) hc
  have hoth : ∀ k, k ≠ p.rb → (w.setRow p.rb c').heap[k]? = w.heap[k]? := fun k hk => setRow_other w p.rb k c' hk
  have getb : (h.upd b { h.get b with cells := cs }).get b = { h.get b with cells := cs } := by simp [AH.upd]
  have geto : ∀ x, x ≠ b → (h.upd b { h.get b with cells := cs }).get x = h.get x := fun x hx => by simp [AH.upd, hx]
  have hext : ∀ x q, ext ((h.upd b { h.get b with cells := cs }).get x) q = ext (h.get x) q := by
    intro x q
    by_cases e : x = b
    · subst e; rw [getb]; simp [ext, hl]
    · rw [geto x e]
  have hstx : ∀ x, ((h.upd b { h.get b with cells := cs }).get x).st = (h.get x).st := by
    intro x
    by_cases e : x = b
    · subst e; rw [getb]
    · rw [geto x e]
  refine ⟨s.below.trans ⟨rfl, rfl, rfl, by simp, fun k hk => hoth k (by omega)⟩, by simpa using s.room, s.dom, ?_, ?_, ?_, ?_, ?_, ?_⟩
  · intro x q hq hx
    by_cases ex : x = b
    · subst ex
      rw [hp] at hq; cases hq
      rw [getb]
      refine ⟨(s.blk _ _ hp (by omega)).1, fun i v hv => ?_⟩
      obtain ⟨v', h1, h2, h3⟩ := hn i v hv
      exact ⟨v', by simpa [World.cell?, hnew] using h1, h2, h3⟩
    · rw [geto x ex] at hx ⊢
      have hb := s.blk x q hq hx
      by_cases e1 : q.rb = p.rb
      · refine ⟨hb.1, fun i v hv => ?_⟩
        have h0 : (h.get x).st = 0 := by
          rcases s.sts x with g | g | g
          · exact g
          · rcases s.old x q hq g with g' | g'
            · omega
            · rw [g'] at hv; cases hv
          · exact absurd g hx
        obtain ⟨v', h1, h2, h3⟩ := hb.2 i v hv
        refine ⟨v', ?_, h2, h3⟩
        have hi : i < ext (h.get x) q := by
          have := (List.getElem?_eq_some_iff.1 hv).1
          unfold ext; omega
        have hle : (h.get b).cells.length ≤ ext (h.get b) p := by unfold ext; omega
        have hap := s.sep x b q p ex hq hp h0 hst
        have := hs (q.ro + i) (by
          rcases hap with g | g | g
          · exact absurd e1 g
          · left; omega
          · right; omega)
        simp only [World.cell?, e1, hnew, hc] at h1 ⊢
        simpa [this] using h1
      · refine ⟨hb.1, fun i v hv => ?_⟩
        obtain ⟨v', h1, h2, h3⟩ := hb.2 i v hv
        exact ⟨v', by rw [World.cell?_of_block (w := w) (hoth _ e1)]; exact h1, h2, h3⟩
  · intro x q hq hx
    rw [hstx] at hx
    obtain ⟨h1, h2, cc, ee, h3, h4⟩ := s.own x q hq hx
    unfold ORel
    rw [hext]
    refine ⟨h1, ?_, ?_⟩
    · by_cases ex : x = b
      · subst ex; rw [getb]; simpa [hl] using h2
      · rw [geto x ex]; exact h2
    · by_cases e1 : q.rb = p.rb
      · refine ⟨c', e, by rw [e1]; exact hnew, ?_⟩
        rw [e1, hc] at h3
        cases h3
        rw [hsz]; exact h4
      · exact ⟨cc, ee, by rw [hoth _ e1]; exact h3, h4⟩
  · intro x q hq hx
    rw [hstx] at hx
    rcases s.old x q hq hx with g | g
    · exact .inl g
    · have ex : x ≠ b := fun e => by rw [e] at hx; omega
      rw [geto x ex]; exact .inr g
  · intro x y q q' hne hq hq' hx hy
    rw [hstx] at hx hy
    unfold Apart
    rw [hext, hext]
    exact s.sep x y q q' hne hq hq' hx hy
  · intro x; rw [hstx]; exact s.sts x
  · intro x hx; rw [hstx]; exact s.fresh x hx

/-- A new real block. -/
theorem Sim.alloc (s : Sim B w0 m h w) (o : Obj) : Sim B w0 m h (w.alloc o) := by
  have hh : ∀ k, k < w.heap.size → (w.alloc o).heap[k]? = w.heap[k]? := fun k hk => Below.heap_alloc w o k hk
  have lt : ∀ {k : Nat} {x : Obj}, w.heap[k]? = some x → k < w.heap.size := fun g => (Array.getElem?_eq_some_iff.1 g).1
  refine ⟨s.below.alloc s.room o, by have := s.room; show B ≤ (w.heap.push o).size; simp; omega, s.dom, ?_, ?_, s.old, s.sep, s.sts, s.fresh⟩
  · intro b p hp hx
    have hb := s.blk b p hp hx
    refine ⟨hb.1, fun i v hv => ?_⟩
    obtain ⟨v', h1, h2, h3⟩ := hb.2 i v hv
    refine ⟨v', ?_, h2, h3⟩
    have : p.rb < w.heap.size := by
      unfold World.cell? at h1
      split at h1
      · rename_i hx; exact lt hx
      · cases h1
    rw [World.cell?_of_block (w := w) (hh _ this)]; exact h1
  · intro b p hp hx
    obtain ⟨h1, h2, c, e, h3, h4⟩ := s.own b p hp hx
    exact ⟨h1, h2, c, e, by rw [hh _ (lt h3)]; exact h3, h4⟩

/-- A new block of the run's own, at the end of the world. -/
theorem Sim.make (s : Sim B w0 m h w) (k : Blk) (R : Nat) (c : Array Value) (e : TypeId) (hst : k.st = 0) (hR : k.es ≠ 0 → k.cells.length ≤ R) (hsz : max k.cells.length R ≤ c.size)
    (hc : ∀ (i : Nat) (v : AV), k.cells[i]? = some v → ∃ v' : Value, c[i]? = some v' ∧ VRel m v v' ∧ v'.oneCell' = true) :
    Grow h.n m (h.n + 1) (m.add h.n ⟨w.heap.size, 0, R, k.es⟩) ∧ Sim B w0 (m.add h.n ⟨w.heap.size, 0, R, k.es⟩) (h.push k) (w.alloc (.cells c e)) := by
  have hg : (w.alloc (.cells c e)).heap[w.heap.size]? = some (.cells c e (0, 0)) := by show (w.heap.push _)[w.heap.size]? = _; simp
  have hle : m.le (m.add h.n ⟨w.heap.size, 0, R, k.es⟩) := by
    intro b q hq
    have : b ≠ h.n := fun e => by have := s.dom b q hq; omega
    simp [BM.add, this, hq]
  refine (s.alloc _).adopt k _ hst ⟨s.room, hR, c, e, hg, by simpa [ext] using hsz⟩ ⟨rfl, fun i v hv => ?_⟩ ?_
  · obtain ⟨v', h1, h2, h3⟩ := hc i v hv
    exact ⟨v', by unfold World.cell?; rw [show (w.alloc (.cells c e)).heap[(⟨w.heap.size, 0 + i, none⟩ : Addr).block]? = _ from hg]; simpa using h1, VRel.mono hle _ _ h2, h3⟩
  · intro b p hp hx
    obtain ⟨_, _, c', e', h3, _⟩ := s.own b p hp hx
    left
    have := (Array.getElem?_eq_some_iff.1 h3).1
    simp; omega

end Go.Ab
