/- Each operation of the model does in the world what its abstract image does in the abstract heap. -/
import Derived.Test.YtjikmaajdpcnhaaAb2
import Derived.Great.BuildSlice
import Derived.Laws.Append
import Derived.Laws.MakeOwn
set_option linter.unusedSimpArgs false
set_option linter.unusedVariables false
namespace Go.Ab
open Go.RowKit

variable {B : Nat} {w0 w w' : World} {m : BM} {h : AH} {P : Program}

def ofCell : Value → AV
  | .int k n => .int k n
  | .bool b => .bool b
  | .string s => .str s
  | .slice none 0 0 => .nils
  | .pointer none => .nilp
  | _ => .un
def ofVal (v : Value) : AV :=
  match v with
  | .agg cs => if cs.toList.all (·.oneCell') = true then .agg (cs.toList.map ofCell) else .un
  | .tuple vs => if vs.toList.length = 0 then .tup [] else .un
  | v => ofCell v

theorem vrel_un (v : Value) : VRel m .un v := by simp only [VRel]
theorem vrel_ofCell (v : Value) : VRel m (ofCell v) v := by
  unfold ofCell
  split <;> simp only [VRel]
theorem vrels_map (l : List Value) : VRels m (l.map ofCell) l := by
  induction l with
  | nil => exact VRels.nil
  | cons v l ih => exact VRels.cons (vrel_ofCell v) ih
theorem vrel_ofVal (v : Value) : VRel m (ofVal v) v := by
  unfold ofVal
  split
  · split
    · rename_i cs hc
      simp only [VRel]
      exact ⟨cs.toList, vrels_map _, fun x hx => List.all_eq_true.1 hc x hx, by simp⟩
    · exact vrel_un _
  · split
    · rename_i vs hv
      simp only [VRel]
      refine ⟨[], VRels.nil, ?_⟩
      have : vs.toList = [] := List.length_eq_zero_iff.1 hv
      congr 1
      exact Array.toList_inj.1 this
    · exact vrel_un _
  · exact vrel_ofCell _

/-- The cells of a type's zero value. -/
def zeroC (P : Program) (t : TypeId) : Option (List AV) :=
  match P.info? t with
  | some i => match i.zero with
    | some v => if v.cells.toList.all (·.oneCell') = true ∧ v.cells.toList.length = i.size then some (v.cells.toList.map ofCell) else none
    | none => none
  | none => none

theorem zeroC_some {t : TypeId} {cs : List AV} (hz : zeroC P t = some cs) : ∃ i v, P.info? t = some i ∧ i.zero = some v ∧ VRels m cs v.cells.toList ∧ (∀ x ∈ v.cells.toList, x.oneCell' = true) ∧ cs.length = i.size ∧ v.cells.size = i.size := by
  unfold zeroC at hz
  split at hz
  · rename_i i hi
    split at hz
    · rename_i v hv
      split at hz
      · rename_i hc
        cases hz
        exact ⟨i, v, hi, hv, vrels_map _, fun x hx => List.all_eq_true.1 hc.1 x hx, by simpa using hc.2, by simpa using hc.2⟩
      · cases hz
    · cases hz
  · cases hz

theorem cells_rel {a : AV} {v : Value} (r : VRel m a v) {cs : List AV} (hc : a.cells? = some cs) :
    VRels m cs v.cells.toList ∧ ∀ x ∈ v.cells.toList, x.oneCell' = true := by
  cases a <;> simp only [AV.cells?, Option.some.injEq, reduceCtorEq] at hc <;> subst hc <;> simp only [VRel] at r
  case agg vs =>
    obtain ⟨l, hl, h1, rfl⟩ := r
    exact ⟨by simpa [Value.cells] using hl, by simpa [Value.cells] using h1⟩
  case int => subst r; exact ⟨VRels.cons (by simp only [VRel]) VRels.nil, by simp [Value.cells, Value.oneCell']⟩
  case bool => subst r; exact ⟨VRels.cons (by simp only [VRel]) VRels.nil, by simp [Value.cells, Value.oneCell']⟩
  case str => subst r; exact ⟨VRels.cons (by simp only [VRel]) VRels.nil, by simp [Value.cells, Value.oneCell']⟩
  case nilp => subst r; exact ⟨VRels.cons (by simp only [VRel]) VRels.nil, by simp [Value.cells, Value.oneCell']⟩
  case nils => subst r; exact ⟨VRels.cons (by simp only [VRel]) VRels.nil, by simp [Value.cells, Value.oneCell']⟩
  case ptr => obtain ⟨p, hp, rfl⟩ := r; exact ⟨VRels.cons (by simp only [VRel]; exact ⟨p, hp, rfl⟩) VRels.nil, by simp [Value.cells, Value.oneCell']⟩
  case sl => obtain ⟨p, a, rcap, hp, rfl, hr⟩ := r; exact ⟨VRels.cons (by simp only [VRel]; exact ⟨p, a, rcap, hp, rfl, hr⟩) VRels.nil, by simp [Value.cells, Value.oneCell']⟩
  case fn => obtain ⟨l, hl, rfl⟩ := r; exact ⟨VRels.cons (by simp only [VRel]; exact ⟨l, hl, rfl⟩) VRels.nil, by simp [Value.cells, Value.oneCell']⟩

theorem addr_add (b o n : Nat) : (⟨b, o, none⟩ : Addr).add n = ⟨b, o + n, none⟩ := by
  unfold Addr.add; split
  · subst_vars; rfl
  · rfl

/-- What is read of a live block. -/
theorem Sim.read (s : Sim B w0 m h w) {b : Nat} {p : Pl} (hp : m b = some p) (hl : live h b) {off n : Nat} (hn : off + n ≤ (h.get b).cells.length) :
    ∃ l : List Value, VRels m (((h.get b).cells.drop off).take n) l ∧ (∀ x ∈ l, x.oneCell' = true) ∧ l.length = n ∧
      ∀ (j : Nat) (v : Value), l[j]? = some v → w.cell? ((⟨p.rb, p.ro + off, none⟩ : Addr).add j) = some v := by
  have hb := s.blk b p hp hl
  induction n generalizing off with
  | zero => exact ⟨[], by simpa using VRels.nil, by simp, rfl, by simp⟩
  | succ n ih =>
    have hlt : off < (h.get b).cells.length := by omega
    obtain ⟨v, h1, h2, h3⟩ := hb.2 off _ (List.getElem?_eq_getElem hlt)
    obtain ⟨l, g1, g2, g3, g4⟩ := ih (off := off + 1) (by omega)
    refine ⟨v :: l, ?_, ?_, by simp [g3], ?_⟩
    · rw [List.drop_eq_getElem_cons hlt, List.take_succ_cons]
      exact VRels.cons h2 g1
    · intro x hx
      rcases List.mem_cons.1 hx with rfl | hx
      · exact h3
      · exact g2 x hx
    · intro j u hu
      cases j with
      | zero => simp at hu; subst hu; rw [addr_add]; exact h1
      | succ j =>
        have := g4 j u (by simpa using hu)
        rw [addr_add] at this ⊢
        rw [show p.ro + off + (j + 1) = p.ro + (off + 1) + j by omega]
        exact this

def Res (n : Nat) (B : Nat) (w0 : World) (m : BM) (K : AV → AH → Prop) (r : Result Value) : Prop :=
  ∃ v w' a m' h', r = .ok v w' ∧ Grow n m h'.n m' ∧ Sim B w0 m' h' w' ∧ VRel m' a v ∧ K a h'

theorem Res.same (s : Sim B w0 m h w) {K : AV → AH → Prop} {a : AV} {v : Value} (r : VRel m a v) (k : K a h) : Res h.n B w0 m K (.ok v w) :=
  ⟨v, w, a, m, h, rfl, Grow.refl _ _, s, r, k⟩

theorem Res.of_run (s : Sim B w0 m h w) {K : AV → AH → Prop} {a : AV} {r : Result Value} (e : ∃ v, r = .ok v w ∧ VRel m a v) (k : K a h) : Res h.n B w0 m K r := by
  obtain ⟨v, rfl, hv⟩ := e
  exact Res.same s hv k

theorem foldl_set (off : Nat) : ∀ (xs : List Value) (k : Nat) (cells : Array Value), off + k + xs.length ≤ cells.size →
    ((xs.zipIdx k).foldl (fun cs (x : Value × Nat) => cs.setIfInBounds (off + x.2) x.1) cells).toList = cells.toList.take (off + k) ++ xs ++ cells.toList.drop (off + k + xs.length)
  | [], k, cells, _ => by simp
  | x :: xs, k, cells, hk => by
    simp only [List.length_cons] at hk
    simp only [List.zipIdx_cons, List.foldl_cons]
    rw [foldl_set off xs (k + 1) (cells.setIfInBounds (off + k) x) (by simp; omega)]
    simp only [Array.toList_setIfInBounds, List.length_cons]
    apply List.ext_getElem?
    intro i
    simp only [List.getElem?_append, List.getElem?_take, List.getElem?_drop, List.getElem?_set, List.length_take, List.length_append, List.length_set, Array.length_toList, List.getElem?_cons, List.length_cons]
    grind

def splicev (cs : List Value) (off : Nat) (xs : List Value) : List Value := cs.take off ++ xs ++ cs.drop (off + xs.length)
theorem VRels.splice {cs xs : List AV} {l k : List Value} (h1 : VRels m cs l) (h2 : VRels m xs k) (off : Nat) : VRels m (splice cs off xs) (splicev l off k) := by
  unfold Ab.splice splicev
  rw [show xs.length = k.length from h2.length]
  exact ((h1.take off).append h2).append (h1.drop _)

def partsAt (pl : Nat → Option (Nat × Nat)) (ρ : Operand → AV) : List (Nat × Operand) → Option (List (Nat × Nat × AV))
  | [] => some []
  | (i, x) :: rest =>
    match pl i, partsAt pl ρ rest with
    | some (o, s), some l => some ((o, s, ρ x) :: l)
    | _, _ => none

theorem fill_rel {ρ : Operand → AV} {a : Act} (hρ : ∀ x, VRel m (ρ x) (a.eval x)) (pl : Nat → Option (Nat × Nat)) :
    ∀ (parts : List (Nat × Operand)) (ap : List (Nat × Nat × AV)) (cs : List AV) (cells : Array Value) (cs' : List AV), partsAt pl ρ parts = some ap → VRels m cs cells.toList → (∀ x ∈ cells.toList, x.oneCell' = true) → afill cs ap = some cs' →
      ∃ cells', Instr.fill pl cells (parts.map fun x => (x.1, a.eval x.2)) = some cells' ∧ VRels m cs' cells'.toList ∧ (∀ x ∈ cells'.toList, x.oneCell' = true)
  | [], ap, cs, cells, cs', h1, h2, h3, h4 => by
    simp only [partsAt, Option.some.injEq] at h1; subst h1
    simp only [afill, Option.some.injEq] at h4; subst h4
    exact ⟨cells, rfl, h2, h3⟩
  | (i, x) :: rest, ap, cs, cells, cs', h1, h2, h3, h4 => by
    simp only [partsAt] at h1
    split at h1
    · rename_i o sz l hpl hrest
      cases h1
      simp only [afill] at h4
      split at h4
      · rename_i xs hxs
        split at h4
        · rename_i hc
          obtain ⟨r1, r2⟩ := cells_rel (hρ x) hxs
          have hlen : xs.length = (a.eval x).cells.size := by simpa using r1.length
          have hcl : cs.length = cells.size := by simpa using h2.length
          have hfold := foldl_set o (a.eval x).cells.toList 0 cells (by simp; omega)
          have hz : ((a.eval x).cells.zipIdx.foldl (fun cs (c : Value × Nat) => cs.setIfInBounds (o + c.2) c.1) cells).toList = splicev cells.toList o (a.eval x).cells.toList := by
            rw [← Array.foldl_toList, Array.toList_zipIdx]
            simpa [splicev] using hfold
          obtain ⟨cells', g1, g2, g3⟩ := fill_rel hρ pl rest l _ ((a.eval x).cells.zipIdx.foldl (fun cs (c : Value × Nat) => cs.setIfInBounds (o + c.2) c.1) cells) cs' hrest
            (by rw [hz]; exact h2.splice r1 o) (by
              rw [hz]; intro y hy
              simp only [splicev, List.append_assoc, List.mem_append] at hy
              rcases hy with hy | hy | hy
              · exact h3 y (List.mem_of_mem_take hy)
              · exact r2 y hy
              · exact h3 y (List.mem_of_mem_drop hy)) h4
          refine ⟨cells', ?_, g2, g3⟩
          simp only [List.map_cons, Instr.fill, hpl]
          rw [if_neg (by simp; omega)]
          exact g1
        · cases h4
      · cases h4
    · cases h1

end Go.Ab
