/- The abstract image of an operation, and that it is sound. -/
import Derived.Test.YtjikmaajdpcnhaaAb3
set_option linter.unusedSimpArgs false
set_option linter.unusedVariables false
namespace Go.Ab
open Go.RowKit

variable {B : Nat} {w0 w w' : World} {m : BM} {h : AH} {P : Program} {K : AV → AH → Prop}

theorem run_info {t : TypeId} {i : TypeInfo} (hi : P.info? t = some i) : (typeInfo t).run P w = .ok i w := by simp [typeInfo, hi]
theorem run_size {t : TypeId} {i : TypeInfo} (hi : P.info? t = some i) : (sizeOf t).run P w = .ok i.size w := by simp [sizeOf, typeInfo, hi]
theorem run_zero {t : TypeId} {i : TypeInfo} {v : Value} (hi : P.info? t = some i) (hz : i.zero = some v) : (zeroValue t).run P w = .ok v w := by simp [zeroValue, typeInfo, hi, hz]

/-- Neither struct nor array. -/
def plainD : TypeDesc → Bool
  | .struct _ | .array _ _ => false
  | _ => true

theorem run_agg0 {t : TypeId} {d : TypeDesc} (hu : P.underlying t = some d) (hd : plainD d = true) : (isAgg t).run P w = .ok false w := by
  cases d <;> first | (simp [plainD] at hd; done) | simp [isAgg, run_underlying hu]

/-- A new block, whole. -/
theorem make_block (s : Sim B w0 m h w) {es : Nat} {cs : List AV} {c : Array Value} (e : TypeId) (R : Nat) (hR : es ≠ 0 → cs.length ≤ R) (hsz : max cs.length R ≤ c.size) {l : List Value} (hl : VRels m cs l)
    (hc : ∀ (i : Nat) (v : Value), l[i]? = some v → c[i]? = some v) (h1 : ∀ x ∈ l, x.oneCell' = true) :
    Grow h.n m (h.n + 1) (m.add h.n ⟨w.heap.size, 0, R, es⟩) ∧ Sim B w0 (m.add h.n ⟨w.heap.size, 0, R, es⟩) (h.push ⟨cs, es, 0⟩) (w.alloc (.cells c e)) :=
  s.make ⟨cs, es, 0⟩ R c e rfl hR hsz fun i v hv => by
    obtain ⟨v', g1, g2⟩ := hl.get i v hv
    exact ⟨v', hc i v' g1, g2, h1 v' (List.mem_of_getElem? g1)⟩

theorem vrel_new (m : BM) (n : Nat) (p : Pl) (off : Nat) : VRel (m.add n p) (.ptr n off) (.pointer (some ⟨p.rb, p.ro + off, none⟩)) := by
  simp only [VRel]; exact ⟨p, by simp [BM.add], rfl⟩

theorem snd_alloc (s : Sim B w0 m h w) {t : TypeId} {cs : List AV} (hz : zeroC P t = some cs) (g : (AOp.alloc cs).go P h K) :
    Res h.n B w0 m K ((Instr.alloc t true (.tuple #[])).run P w) := by
  obtain ⟨i, v, hi, hv, hr, h1, hl, hs⟩ := zeroC_some hz
  obtain ⟨g1, g2⟩ := make_block s (es := 0) (c := v.cells) t 0 (fun e => absurd rfl e) (by rw [hl, hs]; simp) hr (fun i v hv => by simpa using hv) h1
  refine ⟨.pointer (some ⟨w.heap.size, 0, none⟩), w.alloc (.cells v.cells t), .ptr h.n 0, _, _, ?_, g1, g2, vrel_new _ _ _ _, g⟩
  simp [Instr.alloc, run_zero hi hv, newVar, newRow]

theorem snd_box (s : Sim B w0 m h w) {t : TypeId} {a : AV} {v : Value} (r : VRel m a v) (g : (AOp.box a).go P h K) :
    Res h.n B w0 m K ((Instr.box t v).run P w) := by
  simp only [AOp.go] at g
  split at g
  · rename_i cs hc
    obtain ⟨hr, h1⟩ := cells_rel r hc
    obtain ⟨g1, g2⟩ := make_block s (es := 0) (c := v.cells) t 0 (fun e => absurd rfl e) (by rw [hr.length]; simp) hr (fun i v hv => by simpa using hv) h1
    refine ⟨.pointer (some ⟨w.heap.size, 0, none⟩), w.alloc (.cells v.cells t), .ptr h.n 0, _, _, ?_, g1, g2, vrel_new _ _ _ _, g⟩
    simp [Instr.box, newVar, newRow]
  · exact g.elim

theorem snd_ld1 (s : Sim B w0 m h w) {t : TypeId} {d : TypeDesc} (hu : P.underlying t = some d) (hd : plainD d = true) {a : AV} {v : Value} (r : VRel m a v) (g : (AOp.ld1 a).go P h K) :
    Res h.n B w0 m K ((Instr.loadAt t v).run P w) := by
  simp only [AOp.go] at g
  split at g
  · rename_i b o
    split at g
    · rename_i x hx
      obtain ⟨hl, k⟩ := g
      simp only [VRel] at r
      obtain ⟨p, hp, rfl⟩ := r
      obtain ⟨v', h1, h2, h3⟩ := (s.blk b p hp hl).2 o x hx
      have : (Instr.loadAt t (.pointer (some ⟨p.rb, p.ro + o, none⟩))).run P w = .ok v' w := by
        simp [Instr.loadAt, Instr.sureAddr, loadVar, run_agg0 hu hd, h1]
      rw [this]
      exact Res.same s h2 k
    · exact g.elim
  · exact g.elim

theorem snd_ldn (s : Sim B w0 m h w) {t : TypeId} {fs : Array Field} {i : TypeInfo} (hu : P.underlying t = some (.struct fs)) (hi : P.info? t = some i) {a : AV} {v : Value} (r : VRel m a v) (g : (AOp.ldn i.size a).go P h K) :
    Res h.n B w0 m K ((Instr.loadAt t v).run P w) := by
  simp only [AOp.go] at g
  split at g
  · rename_i b o
    obtain ⟨hl, hn, k⟩ := g
    simp only [VRel] at r
    obtain ⟨p, hp, rfl⟩ := r
    obtain ⟨l, h1, h2, h3, h4⟩ := s.read hp hl hn
    have hrun := run_loadCells_list (P := P) w (⟨p.rb, p.ro + o, none⟩ : Addr) l h4
    rw [h3] at hrun
    have : (Instr.loadAt t (.pointer (some ⟨p.rb, p.ro + o, none⟩))).run P w = .ok (.agg l.toArray) w := by
      simp [Instr.loadAt, Instr.sureAddr, loadVar, isAgg, run_underlying hu, run_size hi, hrun]
    rw [this]
    exact Res.same s (by simp only [VRel]; exact ⟨l, h1, h2, rfl⟩) k
  · exact g.elim

theorem splicev_length (cs : List Value) (off : Nat) (xs : List Value) (hh : off + xs.length ≤ cs.length) : (splicev cs off xs).length = cs.length := by
  simp [splicev]; omega
theorem splice_length (cs : List AV) (off : Nat) (xs : List AV) (hh : off + xs.length ≤ cs.length) : (splice cs off xs).length = cs.length := by
  simp [splice]; omega

/-- Cells of a block of the run's own are written. -/
theorem Sim.put (s : Sim B w0 m h w) {b : Nat} {p : Pl} (hp : m b = some p) (hst : mine h b) {off : Nat} {xs : List AV} {l : List Value} (hl : VRels m xs l) (h1 : ∀ x ∈ l, x.oneCell' = true) (hn : off + xs.length ≤ (h.get b).cells.length) :
    ∃ w', (storeCells ⟨p.rb, p.ro + off, none⟩ l).run P w = .ok () w' ∧ Sim B w0 m (h.upd b { h.get b with cells := splice (h.get b).cells off xs }) w' := by
  obtain ⟨ho, ho2, c, e, hc, hsz⟩ := s.own b p hp hst
  have hlen := hl.length
  have hext : (h.get b).cells.length ≤ Ab.ext (h.get b) p := by unfold Ab.ext; omega
  have hrun := run_storeCells_at P p.rb (p.ro + off) e l 0 c w hc (by omega) h1
  refine ⟨_, hrun, ?_⟩
  simp only [Nat.add_zero]
  refine s.write hp hst hc ?_ _ (splice_length _ _ _ hn) ?_ ?_
  · simp; omega
  · intro i v hv
    have hi : i < (h.get b).cells.length := by
      have := (List.getElem?_eq_some_iff.1 hv).1
      rwa [splice_length _ _ _ hn] at this
    by_cases hin : off ≤ i ∧ i < off + xs.length
    · have hx : xs[i - off]? = some v := by
        rw [← hv]; unfold splice
        simp only [List.getElem?_append, List.length_append, List.length_take]
        grind
      obtain ⟨v', g1, g2⟩ := hl.get _ _ hx
      refine ⟨v', ?_, g2, h1 v' (List.mem_of_getElem? g1)⟩
      rw [← g1]
      simp only [List.getElem?_toArray, List.getElem?_append, List.length_append, List.length_take, Array.length_toList]
      grind
    · have hx : (h.get b).cells[i]? = some v := by
        rw [← hv]; unfold splice
        simp only [List.getElem?_append, List.length_append, List.length_take, List.getElem?_take, List.getElem?_drop]
        grind
      obtain ⟨v', g1, g2, g3⟩ := (s.blk b p hp (by unfold mine at hst; omega)).2 i v hx
      refine ⟨v', ?_, g2, g3⟩
      have g1' : c[p.ro + i]? = some v' := by
        unfold World.cell? at g1
        rw [show w.heap[(⟨p.rb, p.ro + i, none⟩ : Addr).block]? = _ from hc] at g1
        simpa using g1
      rw [← g1']
      simp only [List.getElem?_toArray, List.getElem?_append, List.length_append, List.length_take, List.getElem?_take, List.getElem?_drop, Array.length_toList, Array.getElem?_toList]
      grind
  · intro j hj
    simp only [List.getElem?_toArray, List.getElem?_append, List.length_append, List.length_take, List.getElem?_take, List.getElem?_drop, Array.length_toList, Array.getElem?_toList]
    grind

theorem snd_st (s : Sim B w0 m h w) {t : TypeId} {i : TypeInfo} (hi : P.info? t = some i) {a x : AV} {va vx : Value} (ra : VRel m a va) (rx : VRel m x vx) (g : (AOp.st i.size a x).go P h K) :
    ∃ w' h', (Instr.storeAt t va vx).run P w = .ok () w' ∧ Grow h.n m h'.n m ∧ Sim B w0 m h' w' ∧ K (.tup []) h' := by
  simp only [AOp.go] at g
  split at g
  · rename_i b o xs hxs
    obtain ⟨hm, hl, hn, k⟩ := g
    simp only [VRel] at ra
    obtain ⟨p, hp, rfl⟩ := ra
    obtain ⟨hr, h1⟩ := cells_rel rx hxs
    obtain ⟨w', g1, g2⟩ := s.put (P := P) hp hm (off := o) hr h1 (by omega)
    refine ⟨w', _, ?_, ?_, g2, k⟩
    rotate_left
    · exact Grow.refl _ _
    have hsz : vx.cells.size = i.size := by have := hr.length; simp at this; omega
    simp [Instr.storeAt, Instr.sureAddr, storeVar, run_size hi, hsz, g1]
  · exact g.elim

theorem snd_fad (s : Sim B w0 m h w) {t : TypeId} {fs : Array Field} {f : Nat} {fd : Field} {i : TypeInfo} (hu : P.underlying t = some (.struct fs)) (hf : fs[f]? = some fd) (hi : P.info? fd.type = some i) (hs : i.size ≠ 0) {a : AV} {v : Value} (r : VRel m a v) (g : (AOp.fad fd.offset a).go P h K) :
    Res h.n B w0 m K ((Instr.fieldAt t v f).run P w) := by
  simp only [AOp.go] at g
  split at g
  · rename_i b o
    simp only [VRel] at r
    obtain ⟨p, hp, rfl⟩ := r
    have : (Instr.fieldAt t (.pointer (some ⟨p.rb, p.ro + o, none⟩)) f).run P w = .ok (.pointer (some ⟨p.rb, p.ro + o + fd.offset, none⟩)) w := by
      simp [Instr.fieldAt, run_underlying hu, hf, Instr.sureAddr, fieldPlace, run_size hi, hs, addr_add]
    rw [this]
    exact Res.same s (by simp only [VRel]; exact ⟨p, hp, by rw [Nat.add_assoc]⟩) g
  · exact g.elim

theorem snd_fld1 (s : Sim B w0 m h w) {t : TypeId} {fs : Array Field} {f : Nat} {fd : Field} {d : TypeDesc} (hu : P.underlying t = some (.struct fs)) (hf : fs[f]? = some fd) (hd : P.underlying fd.type = some d) (hn : plainD d = true) {a : AV} {v : Value} (r : VRel m a v) (g : (AOp.fld1 fd.offset a).go P h K) :
    Res h.n B w0 m K ((Instr.field t v f).run P w) := by
  simp only [AOp.go] at g
  split at g
  · rename_i vs
    split at g
    · rename_i x hx
      simp only [VRel] at r
      obtain ⟨l, hl, h1, rfl⟩ := r
      obtain ⟨v', g1, g2⟩ := hl.get _ _ hx
      have : (Instr.field t (.agg l.toArray) f).run P w = .ok v' w := by
        simp [Instr.field, run_underlying hu, hf, asAgg, part, run_agg0 hd hn, g1]
      rw [this]
      exact Res.same s g2 g
    · exact g.elim
  · exact g.elim

theorem snd_fldn (s : Sim B w0 m h w) {t : TypeId} {fs : Array Field} {f : Nat} {fd : Field} {fs' : Array Field} {i : TypeInfo} (hu : P.underlying t = some (.struct fs)) (hf : fs[f]? = some fd) (hd : P.underlying fd.type = some (.struct fs')) (hi : P.info? fd.type = some i) {a : AV} {v : Value} (r : VRel m a v) (g : (AOp.fldn fd.offset i.size a).go P h K) :
    Res h.n B w0 m K ((Instr.field t v f).run P w) := by
  simp only [AOp.go] at g
  split at g
  · rename_i vs
    obtain ⟨hn, k⟩ := g
    simp only [VRel] at r
    obtain ⟨l, hl, h1, rfl⟩ := r
    have : (Instr.field t (.agg l.toArray) f).run P w = .ok (.agg ((l.drop fd.offset).take i.size).toArray) w := by
      simp [Instr.field, run_underlying hu, hf, asAgg, part, isAgg, run_underlying hd, run_size hi, List.extract_toArray, List.extract_eq_take_drop]
    rw [this]
    refine Res.same s ?_ k
    simp only [VRel]
    exact ⟨_, (hl.drop _).take _, fun x hx => h1 x (List.mem_of_mem_drop (List.mem_of_mem_take hx)), rfl⟩
  · exact g.elim

theorem snd_idx (s : Sim B w0 m h w) {t e : TypeId} {i : TypeInfo} (hu : P.underlying t = some (.slice e)) (hi : P.info? e = some i) {x y : AV} {vx vy : Value} (rx : VRel m x vx) (ry : VRel m y vy) (g : (AOp.idx i.size x y).go P h K) :
    Res h.n B w0 m K ((Instr.indexAt t vx vy).run P w) := by
  simp only [AOp.go] at g
  split at g
  · rename_i b off ln k n
    obtain ⟨h0, h1, kk⟩ := g
    simp only [VRel] at rx ry
    obtain ⟨p, a, rcap, hp, rfl, hle, hR, ha⟩ := rx
    subst ry
    have ha' : a = ⟨p.rb, p.ro + off, none⟩ := by
      rcases ha with ha | ha
      · omega
      · exact ha
    subst ha'
    have : (Instr.indexAt t (.slice (some ⟨p.rb, p.ro + off, none⟩) ln rcap) (.int k n)).run P w = .ok (.pointer (some ⟨p.rb, p.ro + off + n.toNat * i.size, none⟩)) w := by
      simp [Instr.indexAt, asIntOf, run_underlying hu, h0, h1, run_size hi, addr_add]
    rw [this]
    exact Res.same s (by simp only [VRel]; exact ⟨p, hp, by rw [Nat.add_assoc]⟩) kk
  · exact g.elim

theorem snd_build (s : Sim B w0 m h w) {t : TypeId} {fs : Array Field} (hu : P.underlying t = some (.struct fs)) {z : List AV} (hz : zeroC P t = some z) {pls : List (Nat × Nat)}
    (hp : fs.toList.mapM (fun f => (P.info? f.type).map fun i => (f.offset, i.size)) = some pls) {ρ : Operand → AV} {a : Act} (hρ : ∀ x, VRel m (ρ x) (a.eval x)) {parts : Array (Nat × Operand)} {ap : List (Nat × Nat × AV)}
    (hap : partsAt (pls.toArray[·]?) ρ parts.toList = some ap) (g : (AOp.build z ap).go P h K) :
    Res h.n B w0 m K ((Instr.build t (parts.map fun x => (x.1, a.eval x.2))).run P w) := by
  simp only [AOp.go] at g
  split at g
  · rename_i cs hcs
    obtain ⟨i, v, hi, hv, hr, h1, hl, hs⟩ := zeroC_some hz
    obtain ⟨cells', g1, g2, g3⟩ := fill_rel hρ _ parts.toList ap z v.cells cs hap hr h1 hcs
    have := run_build (P := P) w t (parts.map fun x => (x.1, a.eval x.2)) cells' (by
      unfold Program.built
      simp only [hi, hu, hv, hp]
      simpa using g1)
    rw [this]
    exact Res.same s (by simp only [VRel]; exact ⟨cells'.toList, g2, g3, by simp⟩) g
  · exact g.elim

end Go.Ab
