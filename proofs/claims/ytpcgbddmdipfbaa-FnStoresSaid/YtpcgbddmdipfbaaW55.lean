/- slices.Insert at trails: the library's own text, walked by hand. -/
import Derived.Test.YtpcgbddmdipfbaaNm
import Derived.Test.YtpcgbddmdipfbaaW5
import Derived.Test.YtpcgbddmdipfbaaAb53
import Derived.Shelf.Spec.SlicesInsert
import Derived.WalkKit
import Derived.Lib.Walk
import Derived.Lib.SliceRun
import Derived.Lib.Overlaps
import Derived.Lib.AppendZerosOnto
import Derived.Laws.Externs
import Derived.Laws.IdiomCopy
import Derived.Laws.CopyRow
import Derived.Laws.NewBlocks
set_option linter.unusedVariables false
set_option linter.unusedSimpArgs false
namespace Go.Proofs.Ytpcgbddmdipfbaa
open Go Go.RowKit Go.Lib Go.Ab
theorem iTrail : Try.prog.info? 109 = some Try.t109 := by kernel_rfl
/-- copy, for elements of any size. -/
theorem run_copy_sz {P : Program} (w : World) (dT sT ty elem : TypeId) (sz g o dLen dCap : Nat) (a : Addr) (sLen sCap : Nat) (cur : Array Value) (t : TypeId) (cs : List Value)
    (hu : P.underlying dT = some (.slice elem)) (hs : (P.info? elem).map (·.size) = some sz)
    (hg : w.heap[g]? = some (.cells cur t (0, 0))) (hn : cs.length = Nat.min sLen dLen * sz)
    (hsrc : ∀ j v, cs[j]? = some v → w.cell? (a.add j) = some v) (hfit : o + cs.length ≤ cur.size) (h1 : ∀ v ∈ cs, v.oneCell' = true) :
    (Builtin.copy_ #[dT, sT] ty #[.slice (some ⟨g, o, none⟩) dLen dCap, .slice (some a) sLen sCap]).run P w =
      .ok (goInt (Nat.min sLen dLen)) (w.setRow g (cur.toList.take o ++ cs ++ cur.toList.drop (o + cs.length)).toArray) := by
  have hl := run_loadCells_list (P := P) w a cs hsrc
  have hst := run_storeCells_at P g o t cs 0 cur w hg (by simpa using hfit) h1
  cases hq : P.info? elem with
  | none => simp [hq] at hs
  | some i =>
    have hi : i.size = sz := by simpa [hq] using hs
    simp [Builtin.copy_, run_underlying hu, Builtin.lenOf, Builtin.firstCells, sizeOf, typeInfo, hq, hi, ← hn, hl, hst]
theorem g_wpl {P : Program} {ops : Array Oper} {Q : Exit → Act → World → Prop} {o : Oper} {rest : List Oper} {a : Act} {w : World} (x : wpList P ops Q (o :: rest) a w) : wpList P ops Q (o :: rest) a w := x
/-- Cells over cells. -/
def ovl (c : Array Value) (o : Nat) (l : List Value) : Array Value := (c.toList.take o ++ l ++ c.toList.drop (o + l.length)).toArray
set_option maxHeartbeats 4000000 in
set_option maxRecDepth 100000 in
theorem ins_shift (b off n c i vb voff vc : Nat) (cur : Array Value) (e : TypeId) (cs vs : List Value) (w : World) (hi : i < n) (hroom : n + 1 ≤ c) (hn63 : n + 1 ≤ 9223372036854775807)
    (hg : w.heap[b]? = some (.cells cur e (0, 0))) (hfit : off + (n + 1) * 4 ≤ cur.size)
    (hcl : cs.length = (n - i) * 4) (hvl : vs.length = 4)
    (hcs : ∀ j v, cs[j]? = some v → w.cell? ⟨b, off + i * 4 + j, none⟩ = some v)
    (hvs : ∀ j v, vs[j]? = some v → (w.setRow b (ovl cur (off + (i + 1) * 4) cs)).cell? ⟨vb, voff + j, none⟩ = some v) (h1c : ∀ v ∈ cs, v.oneCell' = true) (h1v : ∀ v ∈ vs, v.oneCell' = true)
    (hov : ∀ lb cb, lb = n - i → (callFunc 190 #[.slice (some ⟨vb, voff, none⟩) 1 vc, .slice (some ⟨b, off + (i + 1) * 4, none⟩) lb cb]).run Try.prog w = .ok (.value (.bool false)) w) :
    Calls Try.prog 133 #[.slice (some ⟨b, off, none⟩) n c, .int .i64 i, .slice (some ⟨vb, voff, none⟩) 1 vc] w fun e w' =>
      e = .returned (.slice (some ⟨b, off, none⟩) (n + 1) c) ∧ w' = (w.drew.setRow b (ovl cur (off + (i + 1) * 4) cs)).setRow b (ovl (ovl cur (off + (i + 1) * 4) cs) (off + i * 4) vs) := by
  have mixed : Try.prog.follows .mixedOrders = true := by kernel_rfl
  have hz2 : ¬ ((i : Int) = (n : Int)) := by omega
  have hsz : (Try.prog.info? 109).map (·.size) = some 4 := by rw [iTrail]; rfl
  have hw1 : IntKind.i64.wrap ((i : Int) + 1) = (i : Int) + 1 := by rw [IntKind.wrap_i64]; omega
  have hw2 : IntKind.i64.wrap ((n : Int) + 1) = (n : Int) + 1 := by rw [IntKind.wrap_i64]; omega
  have hb1 : (0 : Int) ≤ (i : Int) + 1 := by omega
  have hin : i ≤ n := by omega
  have htn : ((i : Int) + 1).toNat = i + 1 := by omega
  have htn2 : ((n : Int) + 1).toNat = n + 1 := by omega
  have hb2 : ¬ (c = i + 1) := by omega
  have hb3 : (i : Int) ≤ (n : Int) + 1 := by omega
  have hb4 : ¬ (c = i) := by omega
  have hb5 : n + 1 - (i + 1) = n - i := by omega
  have hos : (ovl cur (off + (i + 1) * 4) cs).size = cur.size := by
    unfold ovl; simp [hcl]; omega
  have hcp1 : ∀ ty dl dc sl sc, dl = n - i → sl = n + 1 - i → (Builtin.copy_ #[39, 39] ty #[.slice (some ⟨b, off + (i + 1) * 4, none⟩) dl dc, .slice (some ⟨b, off + i * 4, none⟩) sl sc]).run Try.prog w.drew = .ok (goInt (Nat.min sl dl)) (w.drew.setRow b (ovl cur (off + (i + 1) * 4) cs)) := fun ty dl dc sl sc h1 h2 =>
    run_copy_sz w.drew 39 39 ty 109 4 b (off + (i + 1) * 4) dl dc ⟨b, off + i * 4, none⟩ sl sc cur e cs Try.underlying39 hsz hg (by rw [hcl, h1, h2]; congr 1; simp only [Nat.min_def]; split <;> omega)
      (fun j v hj => by rw [Addr.add_lit]; exact hcs j v hj) (by rw [hcl]; omega) h1c
  obtain ⟨W1, hW1⟩ : ∃ W1, W1 = w.drew.setRow b (ovl cur (off + (i + 1) * 4) cs) := ⟨_, rfl⟩
  have hg1 : W1.heap[b]? = some (.cells (ovl cur (off + (i + 1) * 4) cs) e (0, 0)) := by rw [hW1]; exact setRow_heap _ _ _ _ _ _ hg
  have hcp2 : ∀ ty dl dc, dl = n + 1 - i → (Builtin.copy_ #[39, 39] ty #[.slice (some ⟨b, off + i * 4, none⟩) dl dc, .slice (some ⟨vb, voff, none⟩) 1 vc]).run Try.prog W1 = .ok (goInt (Nat.min 1 dl)) (W1.setRow b (ovl (ovl cur (off + (i + 1) * 4) cs) (off + i * 4) vs)) := fun ty dl dc h1 =>
    run_copy_sz W1 39 39 ty 109 4 b (off + i * 4) dl dc ⟨vb, voff, none⟩ 1 vc _ e vs Try.underlying39 hsz hg1 (by rw [hvl, h1]; simp only [Nat.min_def]; split <;> omega)
      (fun j v hj => by
        rw [Addr.add_lit, hW1]
        exact hvs j v hj) (by rw [hvl, hos]; omega) h1v
  subst hW1
  go_enter Try.func133, Try.ntmps133
  go_wp2_with (simp only [hov])
  go_region_law_o (refine step_copy_runI rfl _ _ 39 39 rfl _ _ (by simp [Act.eval, Act.put]) (by simp [Act.eval, Act.put]) (hcp1 _ _ _ _ _ (by omega) (by omega)) ?_)
  go_wp2_with ((with_reducible apply g_wpl); refine wpList_copy_runI _ rfl _ _ 39 39 rfl _ _ rfl rfl (hcp2 _ _ _ (by omega)) ?_)
  go_ret
  exact ⟨rfl, rfl⟩

theorem setRow_alloc (w : World) (c c' : Array Value) (e : TypeId) : (w.alloc (.cells c e)).setRow w.heap.size c' = w.alloc (.cells c' e) := by
  unfold World.setRow World.alloc
  simp only
  congr 1
  apply Array.ext
  · simp
  · intro k h1 h2
    simp only [Array.getElem_modify, Array.getElem_push]
    split
    · rename_i hk; subst hk; simp
    · rename_i hk
      simp only [Array.size_modify, Array.size_push] at h1
      have : k < w.heap.size := by omega
      simp [this]
set_option maxHeartbeats 4000000 in
set_option maxRecDepth 100000 in
theorem ins_grow (b off n c i vb voff vc : Nat) (c0 cs vs : List Value) (w : World) (hi : i < n) (hnc : n ≤ c) (hroom : c < n + 1) (hbig : (n + 1) * 48 ≤ 140737488355328)
    (hc0 : c0.length = i * 4) (hcl : cs.length = (n - i) * 4) (hvl : vs.length = 4)
    (hcs0 : ∀ j v, c0[j]? = some v → w.cell? ⟨b, off + j, none⟩ = some v)
    (hcs : ∀ j v, cs[j]? = some v → w.cell? ⟨b, off + i * 4 + j, none⟩ = some v)
    (hvs : ∀ j v, vs[j]? = some v → w.cell? ⟨vb, voff + j, none⟩ = some v) (h1c0 : ∀ v ∈ c0, v.oneCell' = true) (h1c : ∀ v ∈ cs, v.oneCell' = true) (h1v : ∀ v ∈ vs, v.oneCell' = true) :
    Calls Try.prog 133 #[.slice (some ⟨b, off, none⟩) n c, .int .i64 i, .slice (some ⟨vb, voff, none⟩) 1 vc] w fun e w' =>
      ∃ (G k : Nat) (row : Array Value), n + 1 ≤ G ∧ row.size = G * 4 ∧ row.toList.take ((n + 1) * 4) = c0 ++ (vs ++ cs) ∧ e = .returned (.slice (some ⟨w.heap.size, 0, none⟩) (n + 1) G) ∧ w' = { (w.alloc (.cells row 109)) with drawn := k } := by
  have mixed : Try.prog.follows .mixedOrders = true := by kernel_rfl
  have hz2 : ¬ ((i : Int) = (n : Int)) := by omega
  have hz3 : (c : Int) < (n : Int) + 1 := by omega
  have hsz : (Try.prog.info? 109).map (·.size) = some 4 := by rw [iTrail]; rfl
  have hw1 : IntKind.i64.wrap ((i : Int) + 1) = (i : Int) + 1 := by rw [IntKind.wrap_i64]; omega
  have hw2 : IntKind.i64.wrap ((n : Int) + 1) = (n : Int) + 1 := by rw [IntKind.wrap_i64]; omega
  have hkk : (n : Int) + 1 - (i : Int) = ((n + 1 - i : Nat) : Int) := by omega
  have hik : i + (n + 1 - i) = n + 1 := by omega
  have hbw : b < w.heap.size := block_lt_of_cell (hcs 0 _ (List.getElem?_eq_getElem (by omega)))
  have hvw : vb < w.heap.size := block_lt_of_cell (hvs 0 _ (List.getElem?_eq_getElem (by omega)))
  have hold : (Builtin.firstCells Try.t109.size i (.slice (some ⟨b, off, none⟩) i c)).run Try.prog w.drew = .ok c0.toArray w.drew := by
    exact run_firstCells_some w.drew 4 i ⟨b, off, none⟩ i c c0 hc0 (fun j v hj => by rw [Addr.add_lit]; exact hcs0 j v hj)
  have hz : Try.t109.zero = some (.agg #[.int .i64 0, .int .i64 0, .int .i64 0, .slice none 0 0]) := by rfl
  have hrz : ∀ ty, (Builtin.append_ #[39, 3] ty #[.slice (some ⟨b, off, none⟩) i c, .int .i64 ((n : Int) + 1 - (i : Int))]).run Try.prog w =
      .ok (.slice (some ⟨w.heap.size, 0, none⟩) (n + 1) (grownCap w (n + 1) c 109)) (w.drew.alloc (.cells (c0.toArray ++ Builtin.zeroCells (Value.agg #[.int .i64 0, .int .i64 0, .int .i64 0, .slice none 0 0]).cells (n + 1 - i) ++ Builtin.zeroCells (Value.agg #[.int .i64 0, .int .i64 0, .int .i64 0, .slice none 0 0]).cells (grownCap w (n + 1) c 109 - (n + 1))) 109)) := fun ty => by
    have h := Lib.run_append_grow_zeros w 39 3 ty 109 Try.t109 _ .i64 .i64 Try.underlying39 Try.underlying3 iTrail hz (some ⟨b, off, none⟩) i c c0 hold (n + 1 - i) (by omega) (by show 0 < 4; omega) (by omega) (by omega) (by show _ * 48 ≤ _; omega) (by rw [hik]; exact growslice_fits (by omega) hbig)
    rw [hik] at h
    rw [hkk]
    exact h
  obtain ⟨G, hG⟩ : ∃ G, G = grownCap w (n + 1) c 109 := ⟨_, rfl⟩
  obtain ⟨ROW, hROW⟩ : ∃ ROW : Array Value, ROW = c0.toArray ++ Builtin.zeroCells (Value.agg #[.int .i64 0, .int .i64 0, .int .i64 0, .slice none 0 0]).cells (n + 1 - i) ++ Builtin.zeroCells (Value.agg #[.int .i64 0, .int .i64 0, .int .i64 0, .slice none 0 0]).cells (G - (n + 1)) := ⟨_, rfl⟩
  rw [← hG] at hrz
  rw [← hROW] at hrz
  have hGn : n + 1 ≤ G := by rw [hG]; exact grownCap_ge w _ _ _
  have hRl : ROW.size = G * 4 := by
    rw [hROW]
    simp [size_zeroCells, Value.cells, hc0]
    omega
  have hG63 : G ≤ 9223372036854775807 := by
    have := grownCap_le_maxLen w (n + 1) c 109 (by unfold maxLen; omega)
    rw [← hG] at this
    unfold maxLen at this
    omega
  have hGi : ¬ (G = i) := by omega
  have hGim : ¬ (G = i + 1) := by omega
  have hci : ¬ (c = i) := by omega
  have hin : i ≤ n := by omega
  have htn : ((i : Int) + 1).toNat = i + 1 := by omega
  have hb1 : (0 : Int) ≤ (i : Int) + 1 := by omega
  have hb3 : (i : Int) ≤ (n : Int) := by omega
  have hN : ∀ (W : World), W.heap[w.heap.size]? = some (.cells ROW 109 (0, 0)) → True := fun _ _ => trivial
  have hg0 : ∀ (W : World), W.heap = w.heap.push (.cells ROW 109 (0, 0)) → W.heap[w.heap.size]? = some (.cells ROW 109 (0, 0)) := fun W h => by rw [h]; simp
  have hro : (ovl ROW (i * 4) vs).size = ROW.size := by unfold ovl; simp [hvl]; omega
  have hcell : ∀ (W : World) (k o : Nat) (v : Value), W.heap = w.heap.push (.cells ROW 109 (0, 0)) → k < w.heap.size → w.cell? ⟨k, o, none⟩ = some v → W.cell? ⟨k, o, none⟩ = some v := fun W k o v h hk hv => by
    rw [World.cell?_of_block (w := w) (by rw [h]; simp [Array.getElem?_push]; omega)]; exact hv
  have hcpA : ∀ (W : World), W.heap = w.heap.push (.cells ROW 109 (0, 0)) → ∀ ty dl dc, dl = n + 1 - i → (Builtin.copy_ #[39, 39] ty #[.slice (some ⟨w.heap.size, i * 4, none⟩) dl dc, .slice (some ⟨vb, voff, none⟩) 1 vc]).run Try.prog W = .ok (goInt (Nat.min 1 dl)) (W.setRow w.heap.size (ovl ROW (i * 4) vs)) := fun W hW ty dl dc h1 =>
    run_copy_sz W 39 39 ty 109 4 w.heap.size (i * 4) dl dc ⟨vb, voff, none⟩ 1 vc _ 109 vs Try.underlying39 hsz (hg0 W hW) (by rw [hvl, h1]; simp only [Nat.min_def]; split <;> omega)
      (fun j v hj => by rw [Addr.add_lit]; exact hcell W _ _ _ hW hvw (hvs j v hj)) (by rw [hvl]; omega) h1v
  have hcpB : ∀ (W W0 : World), W0.heap = w.heap.push (.cells ROW 109 (0, 0)) → W.heap = (W0.setRow w.heap.size (ovl ROW (i * 4) vs)).heap → ∀ ty dl dc sl sc, dl = n - i → sl = n - i → (Builtin.copy_ #[39, 39] ty #[.slice (some ⟨w.heap.size, (i + 1) * 4, none⟩) dl dc, .slice (some ⟨b, off + i * 4, none⟩) sl sc]).run Try.prog W = .ok (goInt (Nat.min sl dl)) (W.setRow w.heap.size (ovl (ovl ROW (i * 4) vs) ((i + 1) * 4) cs)) := fun W W0 hW0 hW ty dl dc sl sc h1 h2 =>
    run_copy_sz W 39 39 ty 109 4 w.heap.size ((i + 1) * 4) dl dc ⟨b, off + i * 4, none⟩ sl sc _ 109 cs Try.underlying39 hsz (by rw [hW]; exact setRow_heap _ _ _ _ _ _ (hg0 W0 hW0)) (by rw [hcl, h1, h2]; simp only [Nat.min_def]; split <;> omega)
      (fun j v hj => by
        rw [Addr.add_lit, World.cell?_of_block (w := W0.setRow w.heap.size (ovl ROW (i * 4) vs)) (by rw [hW]), World.cell?_of_block (w := W0) (setRow_other _ _ _ _ (by show b ≠ _; omega))]
        exact hcell W0 _ _ _ hW0 hbw (hcs j v hj)) (by rw [hcl, hro]; omega) h1c
  have hb5 : n + 1 - (i + 1) = n - i := by omega
  have hfin : (ovl (ovl ROW (i * 4) vs) ((i + 1) * 4) cs).size = G * 4 ∧ (ovl (ovl ROW (i * 4) vs) ((i + 1) * 4) cs).toList.take ((n + 1) * 4) = c0 ++ (vs ++ cs) := by
    have h0 : ROW.toList.take (i * 4) = c0 := by
      rw [hROW]
      simp [← hc0]
    have hRl' : ROW.toList.length = G * 4 := by simpa using hRl
    have e1 : (ovl ROW (i * 4) vs).toList.take ((i + 1) * 4) = c0 ++ vs := by
      unfold ovl
      simp only [h0]
      rw [List.take_append_of_le_length (by simp [hc0, hvl]; omega)]
      exact List.take_of_length_le (by simp [hc0, hvl]; omega)
    have e2 : (ovl ROW (i * 4) vs).toList.length = G * 4 := by simpa [hRl] using hro
    refine ⟨?_, ?_⟩
    · unfold ovl at e2 ⊢
      simp at e2
      simp [hcl, hvl] at e2 ⊢
      omega
    · rw [show ovl (ovl ROW (i * 4) vs) ((i + 1) * 4) cs = ((c0 ++ vs) ++ cs ++ (ovl ROW (i * 4) vs).toList.drop ((i + 1) * 4 + cs.length)).toArray from by rw [← e1]; rfl]
      simp only
      rw [List.take_append_of_le_length (by simp [hc0, hvl, hcl]; omega), List.take_of_length_le (by simp [hc0, hvl, hcl]; omega), List.append_assoc]
  clear hkk hik hold hG hROW hRl hro
  go_enter Try.func133, Try.ntmps133
  go_wp2_with (first
    | ((with_reducible apply g_wpl); refine Lib.wpList_append_run _ rfl _ _ _ _ rfl _ _ rfl rfl _ _ (hrz _) ?_)
    | ((with_reducible apply g_wpl); refine wpList_copy_runI _ rfl _ _ 39 39 rfl _ _ rfl rfl (hcpA _ (by rfl) _ _ _ (by omega)) ?_)
    | ((with_reducible apply g_wpl); fail; refine wpList_copy_runI _ rfl _ _ 39 39 rfl _ _ rfl rfl (hcpB _ ((w.alloc (.cells ROW 109)).drew) (by rfl) (by rfl) _ _ _ _ _ (by omega) (by omega)) ?_))
  go_region_law_o (refine step_copy_runI rfl _ _ 39 39 rfl (.slice (some ⟨w.heap.size, (i + 1) * 4, none⟩) (n + 1 - (i + 1)) (G - (i + 1))) (.slice (some ⟨b, off + i * 4, none⟩) (n - i) (c - i)) (by simp [Act.eval, Act.put]) (by simp [Act.eval, Act.put]) (hcpB _ ((w.alloc (.cells ROW 109)).drew) (by rfl) (by rfl) 3 _ _ _ _ (by omega) (by omega)) ?_)
  go_wp2
  go_ret
  refine ⟨G, w.drawn + 1 + 1, _, hGn, hfin.1, hfin.2, rfl, ?_⟩
  show { ((w.alloc (.cells ROW 109)).setRow w.heap.size (ovl ROW (i * 4) vs)).setRow w.heap.size (ovl (ovl ROW (i * 4) vs) ((i + 1) * 4) cs) with drawn := w.drawn + 1 + 1 } = _
  rw [setRow_alloc, setRow_alloc]

theorem run_overlaps_same {P : Program} (w : World) (tS tR e : TypeId) (ht : P.underlying tS = some (.slice e)) (size : Nat) (hz : ∀ w, (Go.sizeOf e).run P w = .ok size w)
    (a b : Addr) (la ca lb cb : Nat) (heq : a.block = b.block) (hd : a.off + la * size ≤ b.off ∨ b.off + lb * size ≤ a.off) :
    (Extern.SlicesOverlaps.overlaps #[tS, tS] #[tR] #[.slice (some a) la ca, .slice (some b) lb cb]).run P w = .ok (.bool false) w := by
  have hnb : (a.block != b.block) = false := by simpa using heq
  have hnb' : (a.block == b.block) = true := by simpa using heq
  refine (congrArg (fun z => Sem.run P z w) (show Extern.SlicesOverlaps.overlaps #[tS, tS] #[tR] #[.slice (some a) la ca, .slice (some b) lb cb] = underlying tS >>= _ from rfl)).trans ?_
  by_cases h0 : la = 0 ∨ lb = 0 ∨ size = 0
  · simp [run_underlying ht, hz, h0]
  · have hf : (decide (a.off < b.off + lb * size) && decide (b.off < a.off + la * size)) = false := by
      rcases hd with hd | hd
      · have : ¬ b.off < a.off + la * size := by omega
        simp [this]
      · have : ¬ a.off < b.off + lb * size := by omega
        simp [this]
    simp [run_underlying ht, hz, h0, hnb, hnb']
    simpa using hf
theorem ovl_out (c : Array Value) (o : Nat) (l : List Value) (hh : o + l.length ≤ c.size) (j : Nat) (hj : j < o ∨ o + l.length ≤ j) : (ovl c o l)[j]? = c[j]? := by
  unfold ovl
  rw [List.getElem?_toArray, splicev_out _ _ _ (by simpa using hh) j hj, Array.getElem?_toList]
theorem ovl_in (c : Array Value) (o : Nat) (l : List Value) (hh : o + l.length ≤ c.size) (j : Nat) (hj : j < l.length) : (ovl c o l)[o + j]? = l[j]? := by
  unfold ovl
  rw [List.getElem?_toArray, splicev_in _ _ _ (by simpa using hh) j hj]
theorem ovl_size (c : Array Value) (o : Nat) (l : List Value) (hh : o + l.length ≤ c.size) : (ovl c o l).size = c.size := by
  unfold ovl; simp; omega
set_option maxHeartbeats 1000000 in
theorem ins_calls {h : AH} {b off n k vb : Nat} {new : List AV} {R : AV → AH → Prop}
    (hm : mine h b) (hes : (h.get b).es = 4) (hln : off + n * 4 ≤ (h.get b).cells.length) (hvb : vb ≠ b) (hmv : mine h vb) (hv : (h.get vb).cells = new) (hnew : new.length = 4) (hves : (h.get vb).es = 4) (hk : k < n) (hbig : (n + 1) * 48 ≤ 70368744177664)
    (g : R (.sl h.n 0 (n + 1)) ((h.kill b).push ⟨((h.get b).cells.drop off).take (k * 4) ++ (new ++ ((h.get b).cells.drop (off + k * 4)).take ((n - k) * 4)), 4, 0⟩)) : ACalls Try.prog 133 [.sl b off n, .int .i64 (k : Int), .sl vb 0 1] h R := by
  refine ⟨⟨Try.f133, Try.func133, by kernel_rfl, by kernel_rfl⟩, fun B w0 m w l s hl => ?_⟩
  obtain ⟨x1, l, rfl, r1, hl⟩ := hl.cons_inv
  obtain ⟨x2, l, rfl, r2, hl⟩ := hl.cons_inv
  obtain ⟨x3, l, rfl, r3, hl⟩ := hl.cons_inv
  simp only [VRels] at hl
  subst hl
  simp only [VRel] at r1 r2 r3
  subst r2
  obtain ⟨p, a, c, hp, rfl, hle, hR, ha⟩ := r1
  obtain ⟨q, a2, vc, hq, rfl, hle2, hR2, ha2⟩ := r3
  have ha : a = ⟨p.rb, p.ro + off, none⟩ := by rcases ha with e | e; omega; exact e
  have ha2 : a2 = ⟨q.rb, q.ro + 0, none⟩ := by rcases ha2 with e | e; omega; exact e
  subst ha; subst ha2
  obtain ⟨ho, ho2, cur, ec, hc, hsz⟩ := s.own b p hp hm
  have hpes : p.es = 4 := (s.blk b p hp (by unfold mine at hm; omega)).1.symm.trans hes
  have hqes : q.es = 4 := (s.blk vb q hq (by unfold mine at hmv; omega)).1.symm.trans hves
  rw [hpes] at hR
  rw [hqes] at hR2
  have hcR := ho2 (by omega)
  have hext : p.R ≤ Ab.ext (h.get b) p := by unfold Ab.ext; omega
  have hlv : live h b := by unfold live; unfold mine at hm; omega
  have hlv2 : live h vb := by unfold live; unfold mine at hmv; omega
  obtain ⟨c0, a1, a2, a3, a4⟩ := s.read hp hlv (off := off) (n := k * 4) (by omega)
  obtain ⟨cs, b1, b2, b3, b4⟩ := s.read hp hlv (off := off + k * 4) (n := (n - k) * 4) (by omega)
  obtain ⟨vs, d1, d2, d3, d4⟩ := s.read hq hlv2 (off := 0) (n := 4) (by rw [hv]; omega)
  rw [hv, List.drop_zero, List.take_of_length_le (by omega)] at d1
  have hap := s.sep vb b q p hvb hq hp hmv hm
  obtain ⟨ov, ov2, cur2, ec2, hc2, hsz2⟩ := s.own vb q hq hmv
  have hextq : 4 ≤ Ab.ext (h.get vb) q := by unfold Ab.ext; rw [hv]; omega
  have cellB : ∀ (l : List Value) (o : Nat), (∀ (j : Nat) (v : Value), l[j]? = some v → w.cell? ((⟨p.rb, p.ro + o, none⟩ : Addr).add j) = some v) → ∀ j v, l[j]? = some v → w.cell? ⟨p.rb, p.ro + o + j, none⟩ = some v := fun l o hl j v hj => by
    have := hl j v hj; rwa [Addr.add_lit] at this
  have cellV : ∀ j v, vs[j]? = some v → w.cell? ⟨q.rb, q.ro + 0 + j, none⟩ = some v := fun j v hj => by
    have := d4 j v hj; rwa [Addr.add_lit] at this
  have aR := a1.length
  have bR := b1.length
  have dR := d1.length
  have hRl : off + c * 4 ≤ Ab.ext (h.get b) p := by omega
  by_cases hroom : n + 1 ≤ c
  · have e1 : ∀ o, p.ro + off + o = p.ro + (off + o) := fun o => by omega
    have hfit : p.ro + off + (n + 1) * 4 ≤ cur.size := by
      have : (n + 1) * 4 ≤ c * 4 := Nat.mul_le_mul_right _ hroom
      omega
    have hz1 : (ovl cur (p.ro + off + (k + 1) * 4) cs).size = cur.size := ovl_size _ _ _ (by rw [b3]; omega)
    have hcall := ins_shift p.rb (p.ro + off) n c k q.rb (q.ro + 0) vc cur ec cs vs w hk hroom (by omega) hc hfit b3 d3 (by intro j v hj; have := cellB cs _ b4 j v hj; rw [← this]; congr 2; omega) (by
        intro j v hj
        have hcv := cellV j v hj
        by_cases er : q.rb = p.rb
        · have hj4 := (List.getElem?_eq_some_iff.1 hj).1
          unfold World.cell? at hcv ⊢
          rw [show w.heap[(⟨q.rb, q.ro + 0 + j, none⟩ : Addr).block]? = some (.cells cur ec (0, 0)) from by rw [← hc]; simp [er]] at hcv
          rw [show (w.setRow p.rb (ovl cur (p.ro + off + (k + 1) * 4) cs)).heap[(⟨q.rb, q.ro + 0 + j, none⟩ : Addr).block]? = some (.cells (ovl cur (p.ro + off + (k + 1) * 4) cs) ec (0, 0)) from by rw [show (⟨q.rb, q.ro + 0 + j, none⟩ : Addr).block = p.rb from er]; exact setRow_heap _ _ _ _ _ _ hc]
          have e2 := ovl_out cur (p.ro + off + (k + 1) * 4) cs (by rw [b3]; omega) (q.ro + 0 + j) (by
            rw [b3]
            rcases hap with z | z | z
            · exact absurd er z
            · left; omega
            · right; omega)
          simp at hcv e2 ⊢
          rw [e2]; exact hcv
        · rw [World.cell?_of_block (w := w) (setRow_other _ _ _ _ er)]; exact hcv) b2 d2 (by
        intro lb cb hlb
        rw [run_callFunc_extern Try.func190 (by kernel_rfl) (by kernel_rfl) (by kernel_rfl) (e := Extern.SlicesOverlaps.overlaps #[39, 39] #[4]) (by kernel_rfl)]
        by_cases er : q.rb = p.rb
        · rw [run_overlaps_same w 39 4 109 Try.underlying39 4 Try.sizeOf109 ⟨q.rb, q.ro + 0, none⟩ ⟨p.rb, p.ro + off + (k + 1) * 4, none⟩ 1 vc lb cb er (by
            show q.ro + 0 + 1 * 4 ≤ p.ro + off + (k + 1) * 4 ∨ p.ro + off + (k + 1) * 4 + lb * 4 ≤ q.ro + 0
            rcases hap with z | z | z
            · exact absurd er z
            · left; omega
            · right; omega)]
          rfl
        · rw [Lib.run_overlaps_apart w 39 4 109 Try.underlying39 4 Try.sizeOf109 ⟨q.rb, q.ro + 0, none⟩ ⟨p.rb, p.ro + off + (k + 1) * 4, none⟩ 1 vc lb cb er ec2 ec cur2.size cur.size (by simp [World.shape?, hc2]) (by simp [World.shape?, hc]) (by omega) (by simp [World.frozen?, hc2]) (by simp [World.frozen?, hc2])]
          rfl)
    refine hcall.mono ?_
    rintro e w' ⟨rfl, rfl⟩
    rw [setRow_setRow]
    have h2f : p.ro + off + k * 4 + vs.length ≤ (ovl cur (p.ro + off + (k + 1) * 4) cs).size := by rw [hz1, d3]; omega
    have h1f : p.ro + off + (k + 1) * 4 + cs.length ≤ cur.size := by rw [b3]; omega
    obtain ⟨c2, hc2'⟩ : ∃ c2, c2 = ovl (ovl cur (p.ro + off + (k + 1) * 4) cs) (p.ro + off + k * 4) vs := ⟨_, rfl⟩
    rw [← hc2']
    have hs2 : c2.size = cur.size := by rw [hc2', ovl_size _ _ _ h2f, hz1]
    have hget : ∀ j, j < p.ro + off + k * 4 ∨ p.ro + off + (n + 1) * 4 ≤ j → c2[j]? = cur[j]? := by
      intro j hj
      rw [hc2', ovl_out _ _ _ h2f j (by rw [d3]; omega), ovl_out _ _ _ h1f j (by rw [b3]; omega)]
    have hn1 : ∀ j, j < 4 → c2[p.ro + off + k * 4 + j]? = vs[j]? := by
      intro j hj
      rw [hc2', ovl_in _ _ _ h2f j (by omega)]
    have hn2 : ∀ j, j < (n - k) * 4 → c2[p.ro + off + (k + 1) * 4 + j]? = cs[j]? := by
      intro j hj
      rw [hc2', ovl_out _ _ _ h2f _ (by rw [d3]; right; omega), ovl_in _ _ _ h1f j (by omega)]
    have sk := ((s.kill b).drew (w.drawn + 1)).scribble ho (c := cur) (c' := c2) (e := ec) hc hs2 (by
      intro b' q' hq' hx hrb j hj
      have hne : b' ≠ b := by
        intro e1; subst e1; simp [AH.kill, AH.upd] at hx
      have hge : (h.kill b).get b' = h.get b' := by simp [AH.kill, AH.upd, hne]
      rw [hge] at hx hj
      have hap' := s.sep b' b q' p hne hq' hp hx hm
      refine hget _ ?_
      rcases hap' with z | z | z
      · exact absurd hrb z
      · left; omega
      · right
        have : (n + 1) * 4 ≤ c * 4 := Nat.mul_le_mul_right _ hroom
        omega)
    have hw := setRow_heap w.drew p.rb cur c2 ec (0, 0) hc
    have hkl : ∀ i v, (((h.get b).cells.drop off).take (k * 4) ++ (new ++ ((h.get b).cells.drop (off + k * 4)).take ((n - k) * 4)))[i]? = some v → ∃ v', c2[p.ro + off + i]? = some v' ∧ VRel m v v' ∧ v'.oneCell' = true := by
      intro i v hiv
      by_cases i1 : i < k * 4
      · rw [List.getElem?_append_left (by omega)] at hiv
        obtain ⟨v', g1, g2⟩ := a1.get i v hiv
        refine ⟨v', ?_, g2, a2 v' (List.mem_of_getElem? g1)⟩
        rw [hget _ (by left; omega)]
        have := cellB c0 _ a4 i v' g1
        unfold World.cell? at this
        rw [show w.heap[(⟨p.rb, p.ro + off + i, none⟩ : Addr).block]? = _ from hc] at this
        simpa using this
      · rw [List.getElem?_append_right (by omega), aR, a3] at hiv
        by_cases i2 : i - k * 4 < 4
        · rw [List.getElem?_append_left (by omega)] at hiv
          obtain ⟨v', g1, g2⟩ := d1.get _ v hiv
          refine ⟨v', ?_, g2, d2 v' (List.mem_of_getElem? g1)⟩
          have := hn1 (i - k * 4) i2
          rw [show p.ro + off + k * 4 + (i - k * 4) = p.ro + off + i by omega] at this
          rw [this]; exact g1
        · rw [List.getElem?_append_right (by omega), hnew] at hiv
          obtain ⟨v', g1, g2⟩ := b1.get _ v hiv
          have hlt := (List.getElem?_eq_some_iff.1 g1).1
          refine ⟨v', ?_, g2, b2 v' (List.mem_of_getElem? g1)⟩
          have := hn2 (i - k * 4 - 4) (by omega)
          rw [show p.ro + off + (k + 1) * 4 + (i - k * 4 - 4) = p.ro + off + i by omega] at this
          rw [this]; exact g1
    have hlen : (((h.get b).cells.drop off).take (k * 4) ++ (new ++ ((h.get b).cells.drop (off + k * 4)).take ((n - k) * 4))).length = (n + 1) * 4 := by
      simp only [List.length_append, hnew]; rw [aR, a3, bR, b3]; omega
    have hmul : (n + 1) * 4 ≤ c * 4 := Nat.mul_le_mul_right _ hroom
    obtain ⟨q1, q2⟩ := sk.adopt ⟨((h.get b).cells.drop off).take (k * 4) ++ (new ++ ((h.get b).cells.drop (off + k * 4)).take ((n - k) * 4)), 4, 0⟩ ⟨p.rb, p.ro + off, p.R - off, 4⟩ rfl
      ⟨ho, fun _ => by show List.length _ ≤ _; rw [hlen]; show _ ≤ p.R - off; omega, c2, ec, hw, by simp only [Ab.ext]; rw [hlen, hs2]; omega⟩
      ⟨rfl, fun j v hj => by
        obtain ⟨v', g1, g2, g3⟩ := hkl j v hj
        refine ⟨v', ?_, VRel.mono ?_ _ _ g2, g3⟩
        · show (w.drew.setRow p.rb c2).cell? ⟨p.rb, p.ro + off + j, none⟩ = some v'
          unfold World.cell?
          rw [show (w.drew.setRow p.rb c2).heap[(⟨p.rb, p.ro + off + j, none⟩ : Addr).block]? = _ from hw]
          simpa using g1
        · intro x q' hq'
          have : x ≠ (h.kill b).n := fun e => by have := s.dom x q' hq'; simp only [AH.kill, AH.upd] at e; omega
          simp [BM.add, this, hq']⟩
      (by
        intro b' q' hq' hx
        have hne : b' ≠ b := by
          intro e1; subst e1; simp [AH.kill, AH.upd] at hx
        have hge : (h.kill b).get b' = h.get b' := by simp [AH.kill, AH.upd, hne]
        rw [hge] at hx ⊢
        have hap' := s.sep b' b q' p hne hq' hp hx hm
        rcases hap' with z | z | z
        · exact .inl z
        · right; left; simp only; omega
        · right; right
          simp only [Ab.ext]
          rw [hlen]
          omega)
    refine ⟨_, .sl h.n 0 (n + 1), m.add h.n ⟨p.rb, p.ro + off, p.R - off, 4⟩, (h.kill b).push ⟨((h.get b).cells.drop off).take (k * 4) ++ (new ++ ((h.get b).cells.drop (off + k * 4)).take ((n - k) * 4)), 4, 0⟩, rfl, q1, q2, ?_, g⟩
    simp only [VRel]
    exact ⟨⟨p.rb, p.ro + off, p.R - off, 4⟩, ⟨p.rb, p.ro + off, none⟩, c, by simp [BM.add, AH.kill, AH.upd], rfl, hroom, by simp; omega, .inr rfl⟩
  · have hcall := ins_grow p.rb (p.ro + off) n c k q.rb (q.ro + 0) vc c0 cs vs w hk hle (by omega) (by omega) a3 b3 d3 (cellB c0 _ a4) (by intro j v hj; have := cellB cs _ b4 j v hj; rw [← this]; congr 2; omega) cellV a2 b2 d2
    refine hcall.mono ?_
    rintro e w' ⟨G, kd, row, hG, hrs, hrow, rfl, rfl⟩
    have sd := (s.kill b)
    obtain ⟨g1, g2⟩ := make_block sd (es := 4) (cs := ((h.get b).cells.drop off).take (k * 4) ++ (new ++ ((h.get b).cells.drop (off + k * 4)).take ((n - k) * 4))) (c := row) 109 (G * 4) (l := c0 ++ (vs ++ cs))
      (fun _ => by simp only [List.length_append, hnew]; rw [aR, a3, bR, b3]; omega) (by
        simp only [List.length_append, hnew, hrs]; rw [aR, a3, bR, b3]; omega) (a1.append (d1.append b1)) (fun j v hj => by
          have hlt := (List.getElem?_eq_some_iff.1 hj).1
          simp only [List.length_append, a3, b3, d3] at hlt
          rw [← hrow, List.getElem?_take] at hj
          rw [if_pos (by omega)] at hj
          simpa using hj) (by
          intro x hx
          rcases List.mem_append.1 hx with hx | hx
          · exact a2 x hx
          · rcases List.mem_append.1 hx with hx | hx
            · exact d2 x hx
            · exact b2 x hx)
    refine ⟨_, .sl h.n 0 (n + 1), m.add h.n ⟨w.heap.size, 0, G * 4, 4⟩, (h.kill b).push ⟨((h.get b).cells.drop off).take (k * 4) ++ (new ++ ((h.get b).cells.drop (off + k * 4)).take ((n - k) * 4)), 4, 0⟩, rfl, g1, g2.drew kd, ?_, g⟩
    simp only [VRel]
    exact ⟨⟨w.heap.size, 0, G * 4, 4⟩, ⟨w.heap.size, 0, none⟩, G, by simp [BM.add, AH.kill, AH.upd], rfl, hG, by simp, .inr rfl⟩
section
/- slices.Insert[[]impl.Trail,impl.Trail] -/
def p_slices_Insert_Trail (x0 x1 x2 : AV) : Prog := .op (.slc 4 x0 (some x1) none none) fun v1 => .op (.len 0 x2) fun v2 => .op (.bin 0 .eql v2 (AV.int .i64 0)) fun v3 => .ite v3 (.fin [.val x0]) (.op (.len 0 x0) fun v4 => .op (.bin 0 .eql x1 v4) fun v5 => .ite v5 (.op (.app 4 48 x0 x2) fun v6 => .fin [.val v6]) (.op (.bin 0 .add v4 v2) fun v7 => .op (.bad) fun v8 => .op (.bin 0 .gtr v7 v8) fun v9 => .ite v9 (.op (.slc 4 x0 none (some x1) none) fun v10 => .op (.bin 0 .add v4 v2) fun v11 => .op (.bin 0 .sub v11 x1) fun v12 => .op (.bad) fun v13 => .op (.slc 4 v13 (some x1) none none) fun v14 => .op (.bad) fun v15 => .op (.bin 0 .add x1 v2) fun v16 => .op (.slc 4 v13 (some v16) none none) fun v17 => .op (.slc 4 x0 (some x1) none none) fun v18 => .op (.bad) fun v19 => .fin [.val v13]) (.op (.bin 0 .add v4 v2) fun v20 => .op (.slc 4 x0 none (some v20) none) fun v21 => .op (.bin 0 .add x1 v2) fun v22 => .op (.slc 4 v21 (some v22) none none) fun v23 => .op (.call 190 [x2, v23]) fun v24 => .op (.una .not v24) fun v25 => .ite v25 (.op (.bin 0 .add x1 v2) fun v26 => .op (.slc 4 v21 (some v26) none none) fun v27 => .op (.slc 4 v21 (some x1) none none) fun v28 => .op (.bad) fun v29 => .op (.slc 4 v21 (some x1) none none) fun v30 => .op (.bad) fun v31 => .fin [.val v21]) (.op (.slc 4 v21 (some v4) none none) fun v32 => .op (.bad) fun v33 => .op (.slc 4 v21 (some x1) none none) fun v34 => .op (.call n_slices_rotateRight_Trail [v34, v2]) fun v35 => .fin [.val v21]))))
theorem c_slices_Insert_Trail (x0 x1 x2 : AV) : CC Try.prog n_slices_Insert_Trail [x0, x1, x2] (p_slices_Insert_Trail x0 x1 x2) := cc Try.func133 [] (fun r => if r = 11 then [(0, []), (1, []), (2, []), (3, []), (4, []), (5, []), (6, []), (7, []), (8, [])] else if r = 15 then [(0, []), (1, []), (2, []), (3, []), (4, []), (5, []), (6, []), (7, []), (8, [])] else []) (by kernel_rfl)
end
theorem kill_n {h : AH} {b : Nat} : (h.kill b).n = h.n := rfl
theorem kill_ne {h : AH} {b c : Nat} (e : c ≠ b) : (h.kill b).get c = h.get c := by simp [AH.kill, AH.upd, e]
theorem kp_kill {h : AH} {b : Nat} {X : List Nat} (hb : b ∈ X) : Kp h (h.kill b) X := ⟨Nat.le_refl _, fun c _ hX => kill_ne fun e => hX (e ▸ hb)⟩
theorem s_slices_Insert_Trail {h : AH} {n k vb : Nat} {xs : List Trail} {v : AV} {F G : List Nat} {t : Trail} {cs : List AV} (r : SlRep h v xs F) (o : Own n h F) (bv : Bk h vb cs 4) (rt : Cel.rep h t cs G) (ob : Own n h (vb :: G)) (d : ∀ c ∈ F, c ∉ vb :: G) (hn : n ≤ h.n) (hk : k ≤ xs.length) (hs : (xs.length + 1) * 48 ≤ 70368744177664) :
    ACalls Try.prog n_slices_Insert_Trail [v, .int .i64 (k : Int), .sl vb 0 1] h fun u h' => Kp h h' F ∧ ∃ F', SlRep h' u (xs.take k ++ t :: xs.drop k) F' ∧ Own n h' F' ∧ ∀ c ∈ F', c ∈ F ∨ c ∈ G ∨ h.n ≤ c := by
  have hlc : cs.length = 4 := Cel.len rt
  have rv : SlRep h (.sl vb 0 1) [t] (vb :: G) := .inr ⟨vb, 0, G, cs, rfl, rfl, bv.1, by simp [live, bv.2], by rw [bv.2]; rfl, by rw [bv.2]; show 0 + 1 * 4 ≤ cs.length; omega, by simp, by rw [bv.2]; show cs = (cs.drop 0).take (1 * 4); rw [List.drop_zero, List.take_of_length_le (by omega)], reps_one rt⟩
  by_cases hkn : k = xs.length
  · subst hkn
    refine c_slices_Insert_Trail _ _ _ ?_
    unfold p_slices_Insert_Trail
    have hslc : ∀ (K : AV → Prog) (Q : Nat → List AV → AH → Prop), (∀ u, (K u).awp Try.prog h Q) → (Prog.op (.slc 4 v (some (.int .i64 (xs.length : Int))) none none) K).awp Try.prog h Q := by
      intro K Q hK
      rcases r with ⟨rfl, h1, _⟩ | ⟨b, off, F', cs', rfl, rfl, h1, h2, h3, h4, h5, h6, h7⟩
      · simp only [Prog.awp, AOp.go, bnd, asInt?, h1]
        refine ⟨by simp, by simp, by simp, hK _⟩
      · exact aw_slc_lo (by decide) h3 (o.2 b (by simp)).2 h4 (Nat.le_refl _) (hK _)
    refine hslc _ _ fun u => ?_
    have hl1 : ([t] : List Trail).length = 1 := rfl
    refine aw_len rv ?_
    rw [show (([t] : List Trail).length : Int) = 1 from rfl]
    refine br (fun q => ?_) (fun _ => ?_)
    · exact absurd q (by decide)
    refine aw_ite_f ?_
    refine aw_len r ?_
    refine br (fun _ => ?_) (fun q => ?_)
    rotate_left
    · exact absurd rfl q
    refine aw_ite_t ?_
    refine aw_appF (n := n) r rv (own_tail (own_app o ob (Nat.le_refl _) d)) hn rfl (by rw [hl1]; exact hs) (by rw [hl1]; omega) ?_
    intro v' h' F' k' r' o' m'
    (repeat' first|refine vs ?_|(refine br ?_ ?_<;>intro _<;>try(exfalso;first|omega|contradiction))|((with_reducible refine g_idx ?_);((first|refine ix ?_|refine ixi ?_|(refine ixg ?_;intro _ _)|(refine ixgi ?_;intro _ _));first|rintro _ _ _ _ _ ⟨rfl,rfl⟩ _|rintro _ _ _ _ _ ⟨_,rfl,_⟩ _|rintro _ _ _ _ _ ⟨_,_,_,_,rfl,rfl,_,_⟩ _|intro _ _ _ _ _ _ _))|(refine sx ?_;intro _ _)|((with_reducible refine g_awp ?_);simp only [g0,g1,g2]))
    refine ⟨rfl, _, rfl, k', F', ?_, o', fun c hc => m' c hc⟩
    rw [List.take_length, List.drop_length]; exact r'
  · rcases r with ⟨rfl, h1, _⟩ | ⟨b, off, F', cs', rfl, rfl, h1, h2, h3, h4, h5, h6, h7⟩
    · omega
    have hvb : vb ≠ b := fun e => d b (by simp) (by simp [e])
    refine ins_calls (o.2 b (by simp)).2 h3 h4 hvb (ob.2 vb (by simp)).2 (by rw [bv.2]) hlc (by rw [bv.2]) (by omega) hs ?_
    have nd := List.nodup_cons.1 o.1
    have h7' := h7
    have hsp : xs = xs.take k ++ xs.drop k := (List.take_append_drop k xs).symm
    rw [hsp] at h7'
    obtain ⟨c1, c2, F1, F2, e1, rfl, q1, q2⟩ := h7'.app_split
    have l1 := q1.length
    have l2 := q2.length
    rw [List.length_take, Nat.min_eq_left hk] at l1
    rw [List.length_drop] at l2
    have w4 : Cel.w Trail = 4 := rfl
    rw [w4] at l1 l2 h4 h6
    have e2 : ((h.get b).cells.drop off).take (k * 4) = c1 := by
      have := congrArg (List.take (k * 4)) (h6.symm.trans e1)
      rw [List.take_take, Nat.min_eq_left (by omega), ← l1, List.take_left, l1] at this
      exact this
    have e3 : ((h.get b).cells.drop (off + k * 4)).take ((xs.length - k) * 4) = c2 := by
      have := congrArg (List.drop (k * 4)) (h6.symm.trans e1)
      rw [List.drop_take, List.drop_drop, ← l1, List.drop_left, l1] at this
      rw [← this]; congr 1; omega
    rw [e2, e3]
    have kk : ∀ c, c ≠ b → c < h.n → (h.kill b).get c = h.get c ∧ c < (h.kill b).n := fun c hc hlt => ⟨kill_ne hc, hlt⟩
    have ltF := h7.lt
    have ltG : ∀ c ∈ G, c < h.n := fun c hc => Cel.lt rt c hc
    have neF : ∀ c ∈ F1 ++ F2, c ≠ b := fun c hc e => nd.1 (e ▸ hc)
    have neG : ∀ c ∈ G, c ≠ b := fun c hc e => d b (by simp) (by rw [← e]; simp [hc])
    have rs : Reps (h.kill b) (xs.take k ++ t :: xs.drop k) (c1 ++ (cs ++ c2)) (F1 ++ (G ++ F2)) :=
      (q1.keep fun c hc => kk c (neF c (by simp [hc])) (ltF c (by simp [hc]))).append ⟨cs, c2, G, F2, rfl, rfl, Cel.keep rt fun c hc => kk c (neG c hc) (ltG c hc), q2.keep fun c hc => kk c (neF c (by simp [hc])) (ltF c (by simp [hc]))⟩
    have hmem : ∀ c ∈ F1 ++ (G ++ F2), c ∈ F1 ++ F2 ∨ c ∈ G := fun c hc => by
      simp only [List.mem_append] at hc ⊢
      rcases hc with q | q | q
      · exact .inl (.inl q)
      · exact .inr q
      · exact .inl (.inr q)
    have hlt2 : ∀ c ∈ F1 ++ (G ++ F2), c < (h.kill b).n := fun c hc => (hmem c hc).elim (ltF c) (ltG c)
    refine ⟨(kp_kill (by simp)).push _, h.n :: (F1 ++ (G ++ F2)), slrep_push (h := h.kill b) (by simp only [List.length_append, List.length_cons, List.length_take, List.length_drop]; omega) (by omega) rs, own_push (h := h.kill b) hn rfl hlt2 ⟨?_, fun c hc => ?_⟩, fun c hc => ?_⟩
    · have oF : Own n h (F1 ++ F2) := ⟨nd.2, fun c hc => o.2 c (List.mem_cons_of_mem _ hc)⟩
      have oG : Own n h G := ⟨(List.nodup_cons.1 ob.1).2, fun c hc => ob.2 c (List.mem_cons_of_mem _ hc)⟩
      have := own_app oF oG (Nat.le_refl _) fun c hc hg => d c (List.mem_cons_of_mem _ hc) (List.mem_cons_of_mem _ hg)
      have p : (F1 ++ (G ++ F2)).Perm ((F1 ++ F2) ++ G) := by
        rw [List.append_assoc]; exact List.Perm.append_left _ List.perm_append_comm
      exact p.nodup_iff.2 this.1
    · rcases hmem c hc with q | q
      · rw [kill_ne (neF c q)]; exact o.2 c (List.mem_cons_of_mem _ q)
      · rw [kill_ne (neG c q)]; exact ob.2 c (List.mem_cons_of_mem _ q)
    · rcases List.mem_cons.1 hc with q | q
      · exact .inr (.inr (by rw [q]; exact Nat.le_refl _))
      · rcases hmem c q with z | z
        · exact .inl (List.mem_cons_of_mem _ z)
        · exact .inr (.inl z)
end Go.Proofs.Ytpcgbddmdipfbaa
