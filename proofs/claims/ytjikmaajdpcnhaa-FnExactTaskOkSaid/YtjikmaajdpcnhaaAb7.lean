/- The abstract image of an operation is sound: make, cuts, literals, structs' equality. -/
import Derived.Test.YtjikmaajdpcnhaaAb6
import Derived.Laws.BytesString
set_option linter.unusedSimpArgs false
set_option linter.unusedVariables false
namespace Go.Ab
open Go.RowKit

variable {B : Nat} {w0 w w' : World} {m : BM} {h : AH} {P : Program} {K : AV → AH → Prop}

theorem vrel_newsl (m : BM) (n R es ln cap rb : Nat) (hle : ln ≤ cap) (hR : cap * es = R) : VRel (m.add n ⟨rb, 0, R, es⟩) (.sl n 0 ln) (.slice (some ⟨rb, 0, none⟩) ln cap) := by
  simp only [VRel]
  exact ⟨⟨rb, 0, R, es⟩, ⟨rb, 0, none⟩, cap, by simp [BM.add], rfl, hle, by simp [hR], .inr rfl⟩

theorem made_get (z : Array Value) (n s : Nat) (hs : z.size = s) (i : Nat) (v : Value) (hv : (List.replicate n z.toList).flatten[i]? = some v) : (madeCells z (n * s))[i]? = some v := by
  have hi := (List.getElem?_eq_some_iff.1 hv).1
  have hlen : (List.replicate n z.toList).flatten.length = n * s := by simp [hs]
  rw [hlen] at hi
  have hs0 : 0 < s := by
    rcases Nat.eq_zero_or_pos s with e | e
    · subst e; simp at hi
    · exact e
  have hget : ∀ (n i : Nat), i < n * s → (List.replicate n z.toList).flatten[i]? = z.toList[i % s]? := by
    intro n
    induction n with
    | zero => intro i hi; simp at hi
    | succ n ih =>
      intro i hi
      simp only [List.replicate_succ, List.flatten_cons]
      by_cases h1 : i < s
      · rw [List.getElem?_append_left (by simpa [hs] using h1), Nat.mod_eq_of_lt h1]
      · rw [List.getElem?_append_right (by simp [hs]; omega)]
        have : z.toList.length = s := by simpa using hs
        rw [this, ih (i - s) (by rw [Nat.succ_mul] at hi; omega)]
        congr 1
        exact (Nat.mod_eq_sub_mod (by omega)).symm
  rw [hget n i hi] at hv
  unfold madeCells
  rw [Array.getElem?_map]
  simp only [Array.getElem?_range, hi, if_true, Option.map_some]
  rw [hs]
  have hlt : i % s < z.size := by rw [hs]; exact Nat.mod_lt _ hs0
  have h2 := hv
  rw [Array.getElem?_toList, Array.getElem?_eq_getElem hlt] at h2
  rw [getElem!_pos z (i % s) hlt]
  exact h2

theorem snd_mksl (s : Sim B w0 m h w) {t e : TypeId} {i : TypeInfo} {zs : List AV} (hu : P.underlying t = some (.slice e)) (hi : P.info? e = some i) (hz : zeroC P e = some zs) (hb : i.bytes ≠ 0) {x y : AV} {vx vy : Value} (rx : VRel m x vx) (ry : VRel m y vy) (g : (AOp.mksl i.size i.bytes zs x y).go P h K) :
    Res h.n B w0 m K ((Instr.makeSlice t vx vy).run P w) := by
  simp only [AOp.go] at g
  split at g
  · rename_i n c
    obtain ⟨h0, rfl, hroom, k⟩ := g
    simp only [VRel] at rx ry
    subst rx; subst ry
    obtain ⟨i', z, hi', hz', hr, h1, hl, hs⟩ := zeroC_some hz
    rw [hi] at hi'; cases hi'
    have hbn : (i.bytes : Int) * n ≤ 70368744177664 := by rw [Int.mul_comm]; exact hroom
    have h63 : n ≤ 9223372036854775807 := by
      have h1b : (1 : Int) ≤ i.bytes := by omega
      have : n * 1 ≤ n * i.bytes := Int.mul_le_mul_of_nonneg_left h1b h0
      omega
    rw [run_make (P := P) w t e i z hu hi hz' .i64 .i64 n n h0 (Int.le_refl _) (by omega) h63]
    have hfl := zero_flat (m := m) hr n.toNat
    have hlen : ((List.replicate n.toNat zs).flatten).length = n.toNat * i.size := by
      simp [hl]
    obtain ⟨g1, g2⟩ := make_block s (es := i.size) (c := madeCells z.cells (n.toNat * i.size)) e (n.toNat * i.size) (fun _ => by omega) (by rw [hlen]; simp [size_madeCells]) hfl
      (fun j v hv => made_get z.cells n.toNat i.size hs j v hv) (by
        intro x hx
        obtain ⟨l, hl1, hl2⟩ := List.mem_flatten.1 hx
        rw [List.eq_of_mem_replicate hl1] at hl2
        exact h1 x hl2)
    exact ⟨_, _, _, _, _, rfl, g1, g2, vrel_newsl m h.n _ i.size n.toNat n.toNat w.heap.size (Nat.le_refl _) rfl, k⟩
  · exact g.elim

theorem asInt_rel {x : AV} {v : Value} {n : Int} (r : VRel m x v) (hn : asInt? x = some n) : ∃ k, v = .int k n := by
  cases x <;> simp only [asInt?, reduceCtorEq, Option.some.injEq] at hn
  subst hn
  simp only [VRel] at r
  exact ⟨_, r⟩

/-- The relation of an optional bound. -/
def ORelV (m : BM) : Option AV → Option Value → Prop
  | none, none => True
  | some a, some v => VRel m a v
  | _, _ => False

theorem run_bounds (isSlice : Bool) (len cap : Nat) {lo hi : Option AV} {vlo vhi : Option Value} (rl : ORelV m lo vlo) (rh : ORelV m hi vhi) {l h : Int}
    (hl : bnd lo 0 = some l) (hh : bnd hi len = some h) (h0 : 0 ≤ l) (h1 : l ≤ h) (h2 : h ≤ cap) :
    (Instr.sliceBounds isSlice len cap vlo vhi none).run P w = .ok (l.toNat, h.toNat, cap) w := by
  have hb : ∀ (k : IntKind) (n : Int) (y : Nat) (c : BoundsCode), 0 ≤ n → n ≤ y → (Instr.sliceBound (.int k n) y c).run P w = .ok n.toNat w := by
    intro k n y c g1 g2
    simp [Instr.sliceBound, asIntOf, g1, g2]
  cases lo <;> cases hi <;> cases vlo <;> cases vhi <;> simp only [ORelV] at rl rh <;> simp only [bnd] at hl hh
  · simp only [Option.some.injEq] at hl hh; subst hl; subst hh
    simp [Instr.sliceBounds]
  · simp only [Option.some.injEq] at hl; subst hl
    obtain ⟨k, rfl⟩ := asInt_rel rh hh
    simp [Instr.sliceBounds, hb k h cap _ h1 h2]
  · simp only [Option.some.injEq] at hh; subst hh
    obtain ⟨k, rfl⟩ := asInt_rel rl hl
    simp [Instr.sliceBounds, hb k l len _ h0 h1]
  · obtain ⟨k, rfl⟩ := asInt_rel rh hh
    obtain ⟨k', rfl⟩ := asInt_rel rl hl
    have e : ((h.toNat : Nat) : Int) = h := Int.toNat_of_nonneg (by omega)
    simp [Instr.sliceBounds, hb k h cap _ (by omega) h2, hb k' l h.toNat _ h0 (by omega)]

theorem snd_slc (s : Sim B w0 m h w) {t e : TypeId} {i : TypeInfo} (hu : P.underlying t = some (.slice e)) (hi : P.info? e = some i) {x : AV} {vx : Value} {lo hi' : Option AV} {vlo vhi : Option Value} (rx : VRel m x vx) (rl : ORelV m lo vlo) (rh : ORelV m hi' vhi)
    (g : (AOp.slc i.size x lo hi' none).go P h K) : Res h.n B w0 m K ((Instr.sliceAt t vx vlo vhi none).run P w) := by
  simp only [AOp.go] at g
  split at g
  · rename_i b off ln
    split at g
    · rename_i l hh hl hhh
      obtain ⟨hes, hbes, hm, hlen, h0, h1, h2, k⟩ := g
      simp only [VRel] at rx
      obtain ⟨p, a, rcap, hp, rfl, hle, hR, ha⟩ := rx
      obtain ⟨ho, ho2, c, ec, hc, hsz⟩ := s.own b p hp hm
      have hbb := s.blk b p hp (by unfold mine at hm; omega)
      have hpes : p.es = i.size := hbb.1.symm.trans hbes
      rw [hpes] at hR
      have hcR := ho2 (by omega)
      have hcap : hh.toNat ≤ rcap := by
        have : hh.toNat * i.size ≤ rcap * i.size := by omega
        exact Nat.le_of_mul_le_mul_right this (Nat.pos_of_ne_zero hes)
      have hb := run_bounds (P := P) (w := w) true ln rcap rl rh hl hhh h0 h1 (by omega)
      have hrun : (Instr.sliceAt t (.slice (some a) ln rcap) vlo vhi none).run P w = .ok (.slice (if rcap = l.toNat then some a else some (a.add (l.toNat * i.size))) (hh.toNat - l.toNat) (rcap - l.toNat)) w := by
        simp [Instr.sliceAt, Instr.slice, run_underlying hu, hb, run_size hi]
      rw [hrun]
      have e1 : (hh - l).toNat = hh.toNat - l.toNat := by omega
      rw [e1] at k
      refine Res.same s ?_ k
      simp only [VRel]
      have hmul : (rcap - l.toNat) * i.size = rcap * i.size - l.toNat * i.size := Nat.sub_mul _ _ _
      have hle2 : l.toNat * i.size ≤ rcap * i.size := Nat.mul_le_mul_right _ (by omega)
      by_cases e2 : rcap = l.toNat
      · rw [if_pos e2]
        exact ⟨p, a, rcap - l.toNat, hp, rfl, by omega, by rw [hpes, hmul]; omega, .inl (by omega)⟩
      · rw [if_neg e2]
        refine ⟨p, a.add (l.toNat * i.size), rcap - l.toNat, hp, rfl, by omega, by rw [hpes, hmul]; omega, .inr ?_⟩
        rcases ha with ha | ha
        · omega
        · subst ha; rw [addr_add, Nat.add_assoc]
    · exact g.elim
  · split at g
    · rename_i l hh hl hhh
      obtain ⟨rfl, rfl, _, k⟩ := g
      simp only [VRel] at rx; subst rx
      have hb := run_bounds (P := P) (w := w) true 0 0 rl rh hl hhh (by omega) (by omega) (by omega)
      have hrun : (Instr.sliceAt t (.slice none 0 0) vlo vhi none).run P w = .ok (.slice none 0 0) w := by
        simp [Instr.sliceAt, Instr.slice, run_underlying hu, hb, run_size hi]
      rw [hrun]
      exact Res.same s vrel_nils k
    · exact g.elim
  · exact g.elim

theorem run_bounds3 (len cap : Nat) {lo hi : Option AV} {vlo vhi : Option Value} {mx : AV} {vm : Value} (rl : ORelV m lo vlo) (rh : ORelV m hi vhi) (rm : VRel m mx vm) {l h k : Int}
    (hl : bnd lo 0 = some l) (hh : bnd hi 0 = some h) (hs : hi.isSome = true) (hm : asInt? mx = some k) (h0 : 0 ≤ l) (h1 : l ≤ h) (h2 : h ≤ k) (h3 : k ≤ cap) :
    (Instr.sliceBounds true len cap vlo vhi (some vm)).run P w = .ok (l.toNat, h.toNat, k.toNat) w := by
  have hb : ∀ (k : IntKind) (n : Int) (y : Nat) (c : BoundsCode), 0 ≤ n → n ≤ y → (Instr.sliceBound (.int k n) y c).run P w = .ok n.toNat w := by
    intro k n y c g1 g2
    simp [Instr.sliceBound, asIntOf, g1, g2]
  obtain ⟨km, rfl⟩ := asInt_rel rm hm
  have ek : ((k.toNat : Nat) : Int) = k := Int.toNat_of_nonneg (by omega)
  have eh : ((h.toNat : Nat) : Int) = h := Int.toNat_of_nonneg (by omega)
  cases lo <;> cases hi <;> cases vlo <;> cases vhi <;> simp only [ORelV] at rl rh <;> simp only [bnd] at hl hh <;> simp only [Option.isSome, Bool.false_eq_true] at hs
  · simp only [Option.some.injEq] at hl; subst hl
    obtain ⟨kk, rfl⟩ := asInt_rel rh hh
    simp [Instr.sliceBounds, hb km k cap _ (by omega) h3, hb kk h k.toNat _ h1 (by omega)]
  · obtain ⟨kk, rfl⟩ := asInt_rel rh hh
    obtain ⟨k', rfl⟩ := asInt_rel rl hl
    simp [Instr.sliceBounds, hb km k cap _ (by omega) h3, hb kk h k.toNat _ (by omega) (by omega), hb k' l h.toNat _ h0 (by omega)]

theorem snd_slc3 (s : Sim B w0 m h w) {t e : TypeId} {i : TypeInfo} (hu : P.underlying t = some (.slice e)) (hi : P.info? e = some i) {x : AV} {vx : Value} {lo hi' : Option AV} {vlo vhi : Option Value} {mx : AV} {vm : Value} (rx : VRel m x vx) (rl : ORelV m lo vlo) (rh : ORelV m hi' vhi) (rm : VRel m mx vm)
    (g : (AOp.slc3 x lo hi' mx).go P h K) : Res h.n B w0 m K ((Instr.sliceAt t vx vlo vhi (some vm)).run P w) := by
  simp only [AOp.go] at g
  split at g
  · rename_i b off ln
    split at g
    · rename_i l hh q hl hhh hq
      obtain ⟨hs, h0, h1, h2, h3, k⟩ := g
      simp only [VRel] at rx
      obtain ⟨p, a, rcap, hp, rfl, hle, hR, ha⟩ := rx
      have hb := run_bounds3 (P := P) (w := w) ln rcap rl rh rm hl hhh hs hq h0 h1 h2 (by omega)
      have hrun : (Instr.sliceAt t (.slice (some a) ln rcap) vlo vhi (some vm)).run P w = .ok (.slice (if q.toNat = l.toNat then some a else some (a.add (l.toNat * i.size))) (hh.toNat - l.toNat) (q.toNat - l.toNat)) w := by
        simp [Instr.sliceAt, Instr.slice, run_underlying hu, hb, run_size hi]
      rw [hrun]
      exact Res.same s (vrel_un _) k
    · exact g.elim
  · exact g.elim

theorem snd_sslc (s : Sim B w0 m h w) {t : TypeId} (hu : P.underlying t = some .string) {x : AV} {vx : Value} {lo hi' : Option AV} {vlo vhi : Option Value} (rx : VRel m x vx) (rl : ORelV m lo vlo) (rh : ORelV m hi' vhi)
    (g : (AOp.sslc x lo hi').go P h K) : Res h.n B w0 m K ((Instr.sliceAt t vx vlo vhi none).run P w) := by
  simp only [AOp.go] at g
  split at g
  · rename_i st
    split at g
    · rename_i l hh hl hhh
      obtain ⟨h0, h1, h2, k⟩ := g
      simp only [VRel] at rx; subst rx
      have hb := run_bounds (P := P) (w := w) false st.size st.size rl rh hl hhh h0 h1 h2
      have hrun : (Instr.sliceAt t (.string st) vlo vhi none).run P w = .ok (.string (st.extract l.toNat hh.toNat)) w := by
        simp [Instr.sliceAt, Instr.slice, run_underlying hu, hb]
      rw [hrun]
      exact Res.same s vrel_str k
    · exact g.elim
  · exact g.elim

theorem snd_bslice (s : Sim B w0 m h w) {t e : TypeId} {i : TypeInfo} {zs : List AV} (hu : P.underlying t = some (.slice e)) (hi : P.info? e = some i) (hz : zeroC P e = some zs) {ρ : Operand → AV} {a : Act} (hρ : ∀ x, VRel m (ρ x) (a.eval x)) {n : Nat} {parts : Array (Nat × Operand)} {ap : List (Nat × Nat × AV)}
    (hap : partsAt (fun j => some (j * i.size, i.size)) ρ parts.toList = some ap) (g : (AOp.bslice i.size n (List.replicate n zs).flatten ap).go P h K) :
    Res h.n B w0 m K ((Instr.buildSlice t n (parts.map fun x => (x.1, a.eval x.2))).run P w) := by
  simp only [AOp.go] at g
  split at g
  · rename_i cs hcs
    obtain ⟨hsm, hlen, k⟩ := g
    obtain ⟨i', z, hi', hz', hr, h1, hl, hs⟩ := zeroC_some hz
    rw [hi] at hi'; cases hi'
    have hfl := zero_flat (m := m) hr n
    have hmade : (madeCells z.cells (n * i.size)).toList = (List.replicate n z.cells.toList).flatten := by
      apply List.ext_getElem?
      intro j
      by_cases hj : j < n * i.size
      · have hlt : j < ((List.replicate n z.cells.toList).flatten).length := by simp [hs]; exact hj
        rw [List.getElem?_eq_getElem hlt, Array.getElem?_toList]
        exact made_get z.cells n i.size hs j _ (List.getElem?_eq_getElem hlt)
      · rw [List.getElem?_eq_none (by simp [size_madeCells]; omega), List.getElem?_eq_none (by simp [hs]; omega)]
    obtain ⟨cells', g1, g2, g3⟩ := fill_rel hρ _ parts.toList ap _ (madeCells z.cells (n * i.size)) cs hap (by rw [hmade]; exact hfl) (by
      rw [hmade]
      intro x hx
      obtain ⟨l, hl1, hl2⟩ := List.mem_flatten.1 hx
      rw [List.eq_of_mem_replicate hl1] at hl2
      exact h1 x hl2) hcs
    have hsz : cells'.size = n * i.size := by have := g2.length; simp at this; omega
    have hrun : (Instr.buildSlice t n (parts.map fun x => (x.1, a.eval x.2))).run P w = .ok (.slice (some ⟨w.heap.size, 0, none⟩) n n) (w.alloc (.cells cells' e)) := by
      by_cases h0 : n * i.size = 0
      · have hmk : madeCells z.cells (n * i.size) = #[] := by rw [h0]; simp [madeCells]
        rw [hmk] at g1
        simp [Instr.buildSlice, run_underlying hu, run_size hi, h0, newRow, Array.range_zero', g1]
      · have hsm' : ¬ (16777216 < n * i.size) := by omega
        unfold madeCells at g1
        simp [Instr.buildSlice, run_underlying hu, run_size hi, run_zero hi hz', h0, hsm', newRow, g1]
    rw [hrun]
    obtain ⟨q1, q2⟩ := make_block s (es := i.size) (c := cells') e (n * i.size) (fun _ => by omega) (by rw [hlen, hsz]; simp) g2 (fun j v hv => by simpa using hv) g3
    exact ⟨_, _, _, _, _, rfl, q1, q2, vrel_newsl m h.n _ i.size n n w.heap.size (Nat.le_refl _) rfl, k⟩
  · exact g.elim

theorem cbytes_vals {m : BM} : ∀ {cs : List AV} {ns : List Int} {l : List Value}, cbytes cs = some ns → VRels m cs l → l = ns.map (Value.int .u8)
  | [], ns, l, hc, r => by
    simp only [cbytes, Option.some.injEq] at hc; subst hc
    simpa [VRels] using r
  | c :: cs, ns, l, hc, r => by
    cases c <;> try (simp [cbytes] at hc; done)
    rename_i k n
    cases k <;> try (simp [cbytes] at hc; done)
    simp only [cbytes] at hc
    split at hc
    · rename_i l' hl'
      simp only [Option.some.injEq] at hc; subst hc
      simp only [VRels] at r
      obtain ⟨v, vs, rfl, hv, hvs⟩ := r
      simp only [VRel] at hv; subst hv
      rw [cbytes_vals hl' hvs]
      rfl
    · cases hc

theorem snd_bstr (s : Sim B w0 m h w) {src dst e : TypeId} (hs : P.underlying src = some (.slice e)) (he : P.underlying e = some (.int .u8)) (hd : P.underlying dst = some .string) {x : AV} {vx : Value} (rx : VRel m x vx) (g : (AOp.bstr x).go P h K) :
    Res h.n B w0 m K ((convert src dst vx).run P w) := by
  simp only [AOp.go] at g
  split at g
  · rename_i st hst
    obtain ⟨hlv, g⟩ := g
    unfold bstrv at hst
    split at hst
    · simp only [Option.some.injEq] at hst; subst hst
      simp only [VRel] at rx; subst rx
      rw [run_convert_bytes_string w src dst e none 0 0 hs he hd]
      have : (Conv.bytesToString (.slice none 0 0)).run P w = .ok (.string .empty) w := by simp [Conv.bytesToString, Sem.run_pure]
      rw [this]
      exact Res.same s (by simp only [VRel]) g
    · rename_i b off len
      split at hst
      · rename_i hle
        split at hst
        · rename_i ns hns
          simp only [Option.some.injEq] at hst; subst hst
          simp only [VRel] at rx
          obtain ⟨p, a, rcap, hp, rfl, hlc, hR, ha⟩ := rx
          simp only [blive] at hlv
          rw [run_convert_bytes_string w src dst e (some a) len rcap hs he hd]
          obtain ⟨l, h1, h2, h3, h4⟩ := s.read hp hlv hle
          have hl := cbytes_vals hns h1
          have hload : (loadCells a len).run P w = .ok (ns.map (Value.int .u8)).toArray w := by
            rcases ha with h0 | rfl
            · have : len = 0 := by omega
              subst this
              have : l = [] := List.length_eq_zero_iff.1 h3
              rw [← hl, this]; rfl
            · have hrun := run_loadCells_list (P := P) w (⟨p.rb, p.ro + off, none⟩ : Addr) l h4
              rw [h3] at hrun
              rw [hrun, hl]
          rw [run_bytesToString w a len rcap ns hload]
          exact Res.same s (by simp only [VRel]) g
        · cases hst
      · cases hst
    · cases hst
  · exact g.elim

end Go.Ab
