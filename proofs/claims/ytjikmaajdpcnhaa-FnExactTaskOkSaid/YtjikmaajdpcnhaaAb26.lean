/- What comes in, more: structs, arguments; a law's row. -/
import Derived.Test.YtjikmaajdpcnhaaAb25
set_option linter.unusedSimpArgs false
set_option linter.unusedVariables false
namespace Go.Ab
open Go.RowKit Go.ChangeShapes Go.WideShapes

variable {w0 W : World} {B : Nat} {m : BM} {h : AH} {P : Program}

theorem opens_bool {t : TypeId} {fuel : Nat} (ht : P.underlying t = some .bool) : OpensF Bool P t fuel := by
  intro H enc W held cs d ps hd _ w0 m h s
  obtain ⟨n, rfl, _⟩ := DataW.trod_bool ht hd
  exact ⟨m, h, [.bool n], n, [], Ext.refl _, m.le_refl, s, vrels_one (by simp only [VRel]), by simp [Value.oneCell'], ⟨rfl, rfl⟩, trivial⟩
theorem opens_str {t : TypeId} {fuel : Nat} (ht : P.underlying t = some .string) : OpensF ByteArray P t fuel := by
  intro H enc W held cs d ps hd _ w0 m h s
  obtain ⟨n, rfl, _, hn⟩ := DataW.trod_string ht hd
  exact ⟨m, h, [.str n], n, [], Ext.refl _, m.le_refl, s, vrels_one (by simp only [VRel]), by simp [Value.oneCell'], ⟨rfl, rfl⟩, hn⟩

/-- The fields of a struct, from a place on. -/
def OpensL (P : Program) (R : AH → List AV → List Nat → Prop) (fs : List Field) (o N n : Nat) : Prop :=
  ∀ (H : Type) (enc : TypeId × Value → H) (W : World) (held : Bool) (cs : List Value) (xs : List (DataW H × List MemPlace)), cs.length = N → xs.length = fs.length →
    (∀ (i : Nat) (f : Field), fs[i]? = some f → DataW.trod enc P W 0 (fun _ => true) held n f.type ((cs.drop f.offset).take (P.cellsOf f.type)) = xs[i]?) → (∀ k ∈ DataW.weightsEach P (fs.map (·.type)) (xs.map (·.1)), k ≤ reachBytes) →
    ∀ (w0 : World) (m : BM) (h : AH), Sim W.heap.size w0 m h W → ∃ (m' : BM) (h' : AH) (avs : List AV) (F : List Nat), Ext h h' ∧ m.le m' ∧ Sim W.heap.size w0 m' h' W ∧ VRels m' avs (cs.drop o) ∧ (∀ v ∈ cs.drop o, v.oneCell' = true) ∧ R h' avs F

theorem opensL_nil {N n : Nat} : OpensL P (fun _ avs F => avs = [] ∧ F = []) [] N N n := by
  intro H enc W held cs xs hcs _ _ _ w0 m h s
  have : cs.drop N = [] := by rw [← hcs]; simp
  rw [this]
  exact ⟨m, h, [], [], Ext.refl _, m.le_refl, s, VRels.nil, by simp, rfl, rfl⟩

theorem opensL_cons {α : Type} [Cel α] {R : AH → List AV → List Nat → Prop} {f : Field} {fs : List Field} {o k N n : Nat} (hfo : f.offset = o) (hk : P.cellsOf f.type = k) (ho : OpensF α P f.type n) (hl : OpensL P R fs (o + k) N n) :
    OpensL P (fun h avs F => ∃ (x : α) (c1 c2 : List AV) (F1 F2 : List Nat), avs = c1 ++ c2 ∧ F = F1 ++ F2 ∧ Cel.rep h x c1 F1 ∧ Cel.ok x ∧ R h c2 F2) (f :: fs) o N n := by
  intro H enc W held cs xs hcs hxs htr hwt w0 m h s
  cases xs with
  | nil => simp at hxs
  | cons x0 xs =>
    have h0 := htr 0 f rfl
    simp only [List.getElem?_cons_zero, hfo, hk] at h0
    simp only [List.map_cons, DataW.weightsEach, List.mem_append] at hwt
    obtain ⟨m1, h1, a1, x, F1, e1, l1, s1, v1, c1, r1, k1⟩ := ho H enc W held _ x0.1 x0.2 h0 (fun k hk => hwt k (.inl hk)) w0 m h s
    obtain ⟨m2, h2, a2, F2, e2, l2, s2, v2, c2, r2⟩ := hl H enc W held cs xs hcs (by simpa using hxs) (fun i g hg => by simpa using htr (i + 1) g (by simpa using hg)) (fun k hk => hwt k (.inr hk)) w0 m1 h1 s1
    have hsplit : cs.drop o = (cs.drop o).take k ++ cs.drop (o + k) := by
      rw [← List.drop_drop, List.take_append_drop]
    refine ⟨m2, h2, a1 ++ a2, F1 ++ F2, e1.trans e2, BM.le_trans l1 l2, s2, ?_, ?_, x, a1, a2, F1, F2, rfl, rfl, rep_ext r1 e2, k1, r2⟩
    · rw [hsplit]; exact (VRels.mono l2 _ _ v1).append v2
    · intro v hv
      rw [hsplit] at hv
      rcases List.mem_append.1 hv with hv | hv
      · exact c1 v hv
      · exact c2 v hv

theorem opens_struct {α : Type} [Cel α] {t : TypeId} {fs : Array Field} {N fuel : Nat} {R : AH → List AV → List Nat → Prop} (ht : P.underlying t = some (.struct fs)) (hN : P.cellsOf t = N) (hl : ∀ n, n < fuel → OpensL P R fs.toList 0 N n)
    (hc : ∀ h avs F, R h avs F → ∃ x : α, Cel.rep h x avs F ∧ Cel.ok x) : OpensF α P t fuel := by
  intro H enc W held cs d ps hd hwt w0 m h s
  obtain ⟨xs, n, rfl, hx, hcl, hxl, htr⟩ := DataW.trod_struct ht hd
  cases hx
  simp only [DataW.weights, ht] at hwt
  obtain ⟨m', h', avs, F, e, l, s', v, c, r⟩ := hl n (Nat.lt_succ_self n) H enc W held cs xs (by rw [hcl, hN]) (by simpa using hxl) (fun i f hf => htr i f (by simpa using hf)) hwt w0 m h s
  obtain ⟨x, r1, r2⟩ := hc h' avs F r
  exact ⟨m', h', avs, x, F, e, l, s', by simpa using v, by simpa using c, r1, r2⟩

/-! ### Arguments -/

def OpensA (P : Program) (ts : List TypeId) (R : AH → List AV → Prop) : Prop :=
  ∀ (H : Type) (enc : TypeId × Value → H) (W : World) (base : Nat) (vs : List Value) (ds : List (DataW H)) (ps : List MemPlace), (∀ (j : Nat) t v, ts[j]? = some t → vs[j]? = some v → Value.okWide P W .any base t v) →
    DataW.TrodAll enc P W 0 (fun _ => true) true ts vs ds ps → (∀ k ∈ DataW.weightsEach P ts ds, k ≤ reachBytes) →
    ∀ (w0 : World) (m : BM) (h : AH), Sim W.heap.size w0 m h W → ∃ (m' : BM) (h' : AH) (avs : List AV), Ext h h' ∧ m.le m' ∧ Sim W.heap.size w0 m' h' W ∧ VRels m' avs vs ∧ R h' avs

theorem opensA_nil : OpensA P [] (fun _ avs => avs = []) := by
  intro H enc W base vs ds ps _ hA _ w0 m h s
  obtain ⟨rfl, _, _⟩ := trodAll_nil hA
  exact ⟨m, h, [], Ext.refl _, m.le_refl, s, VRels.nil, rfl⟩

theorem opensA_cons {α : Type} [Cel α] {t : TypeId} {ts : List TypeId} {R R' : AH → List AV → Prop} (ho : ∀ n, OpensF α P t n) (hl : OpensA P ts R)
    (hv : ∀ (W : World) (base : Nat) (v : Value) (m : BM) (h : AH) (cs : List AV) (x : α) (F : List Nat), Value.okWide P W .any base t v → VRels m cs v.cells.toList → (∀ u ∈ v.cells.toList, u.oneCell' = true) → Cel.rep h x cs F → Cel.ok x → ∃ av, VRel m av v ∧ ∀ rest, R h rest → R' h (av :: rest)) : OpensA P (t :: ts) R' := by
  intro H enc W base vs ds ps hok hA hwt w0 m h s
  obtain ⟨v, vs, d, ds, p, q, rfl, rfl, rfl, ⟨fuel, hd⟩, hA'⟩ := trodAll_cons hA
  simp only [DataW.weightsEach, List.mem_append] at hwt
  obtain ⟨m1, h1, cs, x, F, e1, l1, s1, v1, c1, r1, k1⟩ := ho fuel H enc W true _ d p hd (fun k hk => hwt k (.inl hk)) w0 m h s
  obtain ⟨m2, h2, avs, e2, l2, s2, v2, r2⟩ := hl H enc W base vs ds q (fun j t' v' hj hv' => hok (j + 1) t' v' (by simpa using hj) (by simpa using hv')) hA' (fun k hk => hwt k (.inr hk)) w0 m1 h1 s1
  obtain ⟨av, g1, g2⟩ := hv W base v m2 h2 cs x F (hok 0 t v rfl rfl) (VRels.mono l2 _ _ v1) c1 (rep_ext r1 e2) k1
  exact ⟨m2, h2, av :: avs, e1.trans e2, BM.le_trans l1 l2, s2, VRels.cons g1 v2, g2 avs r2⟩

theorem one_cell {v : Value} {cs : List AV} (r : VRels m cs v.cells.toList) (hv : v.cells = #[v]) : ∃ av, cs = [av] ∧ VRel m av v := by
  rw [hv] at r
  cases cs with
  | nil => have := r.length; simp at this
  | cons a cs =>
    obtain ⟨u, us, e, h1, h2⟩ := r.cons_inv
    simp at e
    obtain ⟨rfl, rfl⟩ := e
    have := h2.length
    exact ⟨a, by simp at this; simp [this], h1⟩

theorem opensA_int {t : TypeId} {ts : List TypeId} {R : AH → List AV → Prop} (ht : P.underlying t = some (.int .i64)) (hl : OpensA P ts R) : OpensA P (t :: ts) (fun h avs => ∃ n rest, avs = .int .i64 n :: rest ∧ rng n ∧ R h rest) :=
  opensA_cons (α := Int) (fun n => opens_int ht) hl fun W base v m h cs x F hok vr _ rx kx => by
    obtain ⟨n, rfl⟩ := okWide_int ht hok
    obtain ⟨av, rfl, h1⟩ := one_cell vr rfl
    obtain ⟨e, _⟩ := rx
    cases e
    exact ⟨_, h1, fun rest hr => ⟨x, rest, rfl, kx, hr⟩⟩
theorem opensA_bool {t : TypeId} {ts : List TypeId} {R : AH → List AV → Prop} (ht : P.underlying t = some .bool) (hl : OpensA P ts R) : OpensA P (t :: ts) (fun h avs => ∃ n rest, avs = .bool n :: rest ∧ R h rest) :=
  opensA_cons (α := Bool) (fun n => opens_bool ht) hl fun W base v m h cs x F hok vr _ rx kx => by
    obtain ⟨n, rfl⟩ := okWide_bool ht hok
    obtain ⟨av, rfl, h1⟩ := one_cell vr rfl
    obtain ⟨e, _⟩ := rx
    cases e
    exact ⟨_, h1, fun rest hr => ⟨x, rest, rfl, hr⟩⟩
theorem opensA_str {t : TypeId} {ts : List TypeId} {R : AH → List AV → Prop} (ht : P.underlying t = some .string) (hl : OpensA P ts R) : OpensA P (t :: ts) (fun h avs => ∃ n rest, avs = .str n :: rest ∧ Cel.ok n ∧ R h rest) :=
  opensA_cons (α := ByteArray) (fun n => opens_str ht) hl fun W base v m h cs x F hok vr _ rx kx => by
    obtain ⟨n, rfl⟩ := okWide_string ht hok
    obtain ⟨av, rfl, h1⟩ := one_cell vr rfl
    obtain ⟨e, _⟩ := rx
    cases e
    exact ⟨_, h1, fun rest hr => ⟨x, rest, rfl, kx, hr⟩⟩
theorem opensA_slice {α : Type} [Cel α] {t e : TypeId} {ts : List TypeId} {R : AH → List AV → Prop} (ht : P.underlying t = some (.slice e)) (ho : ∀ n, OpensF (List α) P t n) (hl : OpensA P ts R) : OpensA P (t :: ts) (fun h avs => ∃ v xs F rest, avs = v :: rest ∧ SlRep (α := α) h v xs F ∧ (∀ x ∈ xs, Cel.ok x) ∧ R h rest) :=
  opensA_cons (α := List α) ho hl fun W base v m h cs x F hok vr _ rx kx => by
    obtain ⟨a, l, c, rfl⟩ := okWide_slice ht hok
    obtain ⟨av, rfl, h1⟩ := one_cell vr rfl
    obtain ⟨u, e, r⟩ := rx
    cases e
    exact ⟨_, h1, fun rest hr => ⟨_, x, F, rest, rfl, r, kx, hr⟩⟩
theorem opensA_struct {α : Type} [Cel α] {t : TypeId} {fs : Array Field} {ts : List TypeId} {R : AH → List AV → Prop} (ht : P.underlying t = some (.struct fs)) (ho : ∀ n, OpensF α P t n) (hl : OpensA P ts R) : OpensA P (t :: ts) (fun h avs => ∃ cs x F rest, avs = .agg cs :: rest ∧ Cel.rep (α := α) h x cs F ∧ Cel.ok x ∧ R h rest) :=
  opensA_cons (α := α) ho hl fun W base v m h cs x F hok vr hc rx kx => by
    simp only [Value.okWide, ht] at hok
    obtain ⟨l, rfl, _, _⟩ := hok
    exact ⟨.agg cs, by simp only [VRel]; exact ⟨l.toList, vr, hc, by simp⟩, fun rest hr => ⟨cs, x, F, rest, rfl, rx, kx, hr⟩⟩

def h00 : AH := ⟨0, fun _ => ⟨[], 0, 2⟩⟩
theorem sim00 (W : World) : Sim W.heap.size W (fun _ => none) h00 W := by
  refine ⟨Below.refl _ _, Nat.le_refl _, ?_, ?_, ?_, ?_, ?_, fun b => .inr (.inr rfl), fun b _ => rfl⟩
  · intro b p hp; cases hp
  · intro b p hp; cases hp
  · intro b p hp; cases hp
  · intro b p hp; cases hp
  · intro b b' p p' _ hp; cases hp

/-- A law that returns true, whatever comes in. -/
theorem law_calls {f : FuncId} {ts : List TypeId} {R : AH → List AV → Prop} (ho : OpensA P ts R) (hc : ∀ h avs, R h avs → RCalls P f avs h (.bool true)) {H : Type} {enc : TypeId × Value → H} {W : World} {base : Nat} {args : Array Value} {ds : List (DataW H)} {ps : List MemPlace}
    (hok : ∀ (j : Nat) t v, ts[j]? = some t → args.toList[j]? = some v → Value.okWide P W .any base t v) (hA : DataW.TrodAll enc P W 0 (fun _ => true) true ts args.toList ds ps) (hwt : ∀ k ∈ DataW.weightsEach P ts ds, k ≤ reachBytes) :
    Calls P f args W fun e W' => e = .returned (.bool true) ∧ Below W.heap.size W W' := by
  obtain ⟨m', h', avs, _, _, s, v, r⟩ := ho H enc W base args.toList ds ps hok hA hwt W _ _ (sim00 W)
  have := (hc h' avs r).2 W.heap.size W m' W args.toList s v
  rw [Array.toArray_toList] at this
  refine this.mono fun e W' ⟨u, a, m2, h2, e1, _, s2, v2, e2, _⟩ => ?_
  subst e2
  simp only [VRel] at v2
  subst v2
  exact ⟨e1, s2.below⟩

/-- What was there reads as it did. -/
theorem trodAll_below {H : Type} {enc : TypeId × Value → H} (hl : laidOutB P = true) {W W' : World} (hb : Below W.heap.size W W') : ∀ {ts : List TypeId} {vs : List Value} {ds : List (DataW H)} {ps : List MemPlace},
    (ts.all fun t => P.readableRec t && decide (t < P.types.size)) = true → DataW.TrodAll enc P W 0 (fun _ => true) true ts vs ds ps → (∀ x ∈ ps, x.block < W.heap.size) → DataW.TrodAll enc P W' 0 (fun b => decide (b < W.heap.size)) true ts vs ds ps
  | [], vs, ds, ps, _, h, _ => by
    obtain ⟨rfl, rfl, rfl⟩ := trodAll_nil h
    exact trodAll_mk0
  | t :: ts, vs, ds, ps, hr, h, hlt => by
    obtain ⟨v, vs, d, ds, p, q, rfl, rfl, rfl, h1, h2⟩ := trodAll_cons h
    simp only [List.all_cons, Bool.and_eq_true, decide_eq_true_eq] at hr
    exact ⟨p, q, Below.trod hl hr.1.1 hr.1.2 h1 hb fun x hx => hlt x (List.mem_append_left _ hx), trodAll_below hl hb hr.2 h2 fun x hx => hlt x (List.mem_append_right _ hx), rfl⟩

end Go.Ab
