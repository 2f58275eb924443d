/- The abstract image of an operation is sound: what makes and cuts slices. -/
import Derived.Test.YtjikmaajdpcnhaaAb5
set_option linter.unusedSimpArgs false
set_option linter.unusedVariables false
namespace Go.Ab
open Go.RowKit

variable {B : Nat} {w0 w w' : World} {m : BM} {h : AH} {P : Program} {K : AV → AH → Prop}

/-- What is read of a slice or a text that is appended. -/
theorem first_cells (s : Sim B w0 m h w) {es : Nat} {y : AV} {vy : Value} (r : VRel m y vy) {new : List AV} (hn : slcells h es y = some new) (hl : slive h y) :
    ∃ l : List Value, ∃ n : Nat, sllen y = some n ∧ new.length = n * es ∧ VRels m new l ∧ (∀ x ∈ l, x.oneCell' = true) ∧ (Builtin.lenOf vy).run P w = .ok n w ∧ (Builtin.firstCells es n vy).run P w = .ok l.toArray w := by
  unfold slcells at hn
  split at hn
  · simp only [Option.some.injEq] at hn; subst hn
    simp only [VRel] at r; subst r
    exact ⟨[], 0, rfl, by simp, VRels.nil, by simp, by simp [Builtin.lenOf], by simp [Builtin.firstCells]⟩
  · rename_i b off len
    split at hn
    · rename_i hb
      simp only [Option.some.injEq] at hn; subst hn
      simp only [VRel] at r
      obtain ⟨p, a, rcap, hp, rfl, hle, hR, ha⟩ := r
      by_cases h0 : len = 0
      · subst h0
        exact ⟨[], 0, rfl, by simp, by simpa using VRels.nil, by simp, by simp [Builtin.lenOf], by simp only [Builtin.firstCells, Nat.zero_mul]; rfl⟩
      · have hlv : live h b := by
          rcases hl with g | g
          · exact absurd g h0
          · exact g
        have ha' : a = ⟨p.rb, p.ro + off, none⟩ := by
          rcases ha with ha | ha
          · omega
          · exact ha
        subst ha'
        obtain ⟨l, h1, h2, h3, h4⟩ := s.read hp hlv hb
        have hrun := run_loadCells_list (P := P) w (⟨p.rb, p.ro + off, none⟩ : Addr) l h4
        rw [h3] at hrun
        exact ⟨l, len, rfl, by rw [List.length_take, List.length_drop]; omega, h1, h2, by simp [Builtin.lenOf], by simp only [Builtin.firstCells]; exact hrun⟩
    · cases hn
  · rename_i st
    split at hn
    · rename_i he
      simp only [Option.some.injEq] at hn; subst hn; subst he
      simp only [VRel] at r; subst r
      refine ⟨st.data.toList.map fun c => .int .u8 c.toNat, st.size, rfl, by rw [List.length_map, Nat.mul_one]; rfl, ?_, ?_, by simp [Builtin.lenOf], ?_⟩
      · generalize st.data.toList = l
        induction l with
        | nil => exact VRels.nil
        | cons c l ih => exact VRels.cons vrel_int ih
      · intro x hx
        obtain ⟨c, _, rfl⟩ := List.mem_map.1 hx
        rfl
      · simp only [Builtin.firstCells, ByteArray.extract_zero_size, Sem.run_pure]
        congr 1
        apply Array.ext'
        simp
    · cases hn
  · cases hn

theorem run_append_in {tx ty e tt : TypeId} {i : TypeInfo} {d : TypeDesc} (hu : P.underlying tx = some (.slice e)) (hi : P.info? e = some i) (hty : P.underlying ty = some d) (hd : (∃ e', d = .slice e') ∨ d = .string)
    {base : Option Addr} {sLen sCap n : Nat} {vy : Value} {new : Array Value} (hn : (Builtin.lenOf vy).run P w = .ok n w) (hf : (Builtin.firstCells i.size n vy).run P w = .ok new w) (hle : sLen + n ≤ sCap) :
    (Builtin.append_ #[tx, ty] tt #[.slice base sLen sCap, vy]).run P w =
      (match base with
        | some a => (storeCells (a.add (sLen * i.size)) new.toList).run P w
        | none => .ok () w).andThen fun _ w' => .ok (.slice base (sLen + n) sCap) w' := by
  rcases hd with ⟨e', rfl⟩ | rfl
  · cases base <;> simp [Builtin.append_, run_underlying hu, run_underlying hty, run_size hi, hn, hf, hle]
  · cases base <;> simp [Builtin.append_, run_underlying hu, run_underlying hty, run_size hi, hn, hf, hle]

theorem run_append_new {tx ty e tt : TypeId} {i : TypeInfo} {d : TypeDesc} {z : Value} (hu : P.underlying tx = some (.slice e)) (hi : P.info? e = some i) (hz : i.zero = some z) (hty : P.underlying ty = some d) (hd : (∃ e', d = .slice e') ∨ d = .string)
    {base : Option Addr} {sLen sCap n : Nat} {vy : Value} {new old : Array Value} (hn : (Builtin.lenOf vy).run P w = .ok n w)
    (hfd : (Builtin.firstCells i.size n vy).run P w.drew = .ok new w.drew)
    (hold : (Builtin.firstCells i.size sLen (.slice base sLen sCap)).run P w.drew = .ok old w.drew)
    (hgt : sCap < sLen + n) (hb : i.bytes ≠ 0) (hroom : (sLen + n) * i.bytes ≤ 140737488355328) :
    (Builtin.append_ #[tx, ty] tt #[.slice base sLen sCap, vy]).run P w =
      .ok (.slice (some ⟨w.heap.size, 0, none⟩) (sLen + n) (grownCap w (sLen + n) sCap e)) (w.drew.alloc (.cells (old ++ new ++ Builtin.zeroCells z.cells (grownCap w (sLen + n) sCap e - (sLen + n))) e)) := by
  have hcap := growslice_fits hgt hroom
  have h2 : ¬ sLen + n ≤ sCap := by omega
  have h3 : ¬ (281474976710656 < Builtin.nextslicecap (sLen + n) sCap * i.bytes) := by omega
  rcases hd with ⟨e', rfl⟩ | rfl
  · simp [Builtin.append_, run_underlying hu, run_underlying hty, run_size hi, run_info hi, run_zero hi hz, hn, hfd, hold, h2, h3, hb, newRow, Question.forced, grownCap]
  · simp [Builtin.append_, run_underlying hu, run_underlying hty, run_size hi, run_info hi, run_zero hi hz, hn, hfd, hold, h2, h3, hb, newRow, Question.forced, grownCap]


theorem vrels_replicate {x : AV} {v : Value} (r : VRel m x v) (n : Nat) : VRels m (List.replicate n x) (List.replicate n v) := by
  induction n with
  | zero => exact VRels.nil
  | succ n ih => exact VRels.cons r ih
theorem zero_flat {z : List AV} {l : List Value} (r : VRels m z l) (n : Nat) : VRels m (List.replicate n z).flatten (List.replicate n l).flatten := by
  induction n with
  | zero => exact VRels.nil
  | succ n ih => simp only [List.replicate_succ, List.flatten_cons]; exact r.append ih

theorem splicev_out (cs : List Value) (o : Nat) (l : List Value) (hh : o + l.length ≤ cs.length) (j : Nat) (hj : j < o ∨ o + l.length ≤ j) : (cs.take o ++ l ++ cs.drop (o + l.length))[j]? = cs[j]? := by
  simp only [List.getElem?_append, List.length_append, List.length_take, List.getElem?_take, List.getElem?_drop]
  grind
theorem splicev_in (cs : List Value) (o : Nat) (l : List Value) (hh : o + l.length ≤ cs.length) (j : Nat) (hj : j < l.length) : (cs.take o ++ l ++ cs.drop (o + l.length))[o + j]? = l[j]? := by
  simp only [List.getElem?_append, List.length_append, List.length_take, List.getElem?_take, List.getElem?_drop]
  grind

theorem snd_app (s : Sim B w0 m h w) {tx ty e tt : TypeId} {i : TypeInfo} {d : TypeDesc} {z : Value} (hu : P.underlying tx = some (.slice e)) (hi : P.info? e = some i) (hz : i.zero = some z) (hzs : z.cells.size = i.size) (hb : i.bytes ≠ 0)
    (hty : P.underlying ty = some d) (hd : (∃ e', d = .slice e') ∨ d = .string) {x y : AV} {vx vy : Value} (rx : VRel m x vx) (ry : VRel m y vy) (g : (AOp.app i.size i.bytes x y).go P h K) :
    Res h.n B w0 m K ((Builtin.append_ #[tx, ty] tt #[vx, vy]).run P w) := by
  simp only [AOp.go] at g
  split at g
  · -- nil
    rename_i new n hnew hn
    obtain ⟨hl, hroom, k⟩ := g
    obtain ⟨l, n', hn', hlen, hr, h1, hrl, hrf⟩ := first_cells s (P := P) ry hnew hl
    rw [hn] at hn'; cases hn'
    simp only [VRel] at rx; subst rx
    by_cases h0 : n = 0
    · subst h0
      rw [if_pos rfl] at k
      have := run_append_in (tt := tt) hu hi hty hd (base := none) (sLen := 0) (sCap := 0) hrl hrf (by omega)
      rw [this]
      exact Res.same s vrel_nils k
    · rw [if_neg h0] at k
      obtain ⟨l2, n2, hn2, hlen2, hr2, h12, hrl2, hrf2⟩ := first_cells (s.drew (w.drawn + 1)) (P := P) ry hnew hl
      rw [hn] at hn2; cases hn2
      have := run_append_new (tt := tt) hu hi hz hty hd (base := none) (sLen := 0) (sCap := 0) (n := n) (new := l2.toArray) (old := #[]) hrl hrf2 (by simp [Builtin.firstCells]) (by omega) hb (by rw [Nat.zero_add]; omega)
      rw [this]
      have hge := grownCap_ge w (0 + n) 0 e
      have hl2 := hr2.length
      obtain ⟨g1, g2⟩ := make_block (s.drew (w.drawn + 1)) (es := i.size) (c := #[] ++ l2.toArray ++ Builtin.zeroCells z.cells (grownCap w (0 + n) 0 e - (0 + n))) e (grownCap w (0 + n) 0 e * i.size)
        (fun _ => by rw [hlen2]; exact Nat.mul_le_mul_right _ (by omega)) (by
          simp [size_zeroCells, hzs]
          rw [← hl2, hlen2, Nat.sub_mul]
          have := Nat.mul_le_mul_right i.size hge
          omega) hr2 (fun i v hv => by simp [Array.getElem?_append, hv]; intro hh; exact absurd (List.getElem?_eq_some_iff.1 hv).1 (by omega)) h12
      refine ⟨_, _, _, _, _, rfl, g1, g2, ?_, k⟩
      simp only [VRel]
      exact ⟨⟨w.heap.size, 0, grownCap w (0 + n) 0 e * i.size, i.size⟩, ⟨w.heap.size, 0, none⟩, grownCap w (0 + n) 0 e, by simp [BM.add], by rw [Nat.zero_add], by omega, by simp, .inr rfl⟩
  · -- a slice
    rename_i b off ln new n hnew hn
    obtain ⟨hm, hl, hes, hbes, k⟩ := g
    obtain ⟨l, n', hn', hlen, hr, h1, hrl, hrf⟩ := first_cells s (P := P) ry hnew hl
    rw [hn] at hn'; cases hn'
    simp only [VRel] at rx
    obtain ⟨p, a, rcap, hp, rfl, hle, hR, ha⟩ := rx
    obtain ⟨ho, ho2, c, ec, hc, hsz⟩ := s.own b p hp hm
    have hbb := s.blk b p hp (by unfold mine at hm; omega)
    have hpes : p.es = i.size := hbb.1.symm.trans hbes
    rw [hpes] at hR
    have hcR := ho2 (by omega)
    have hext : p.R ≤ Ab.ext (h.get b) p := by unfold Ab.ext; omega
    have hmul : ∀ {x y : Nat}, x ≤ y → x * i.size ≤ y * i.size := fun hxy => Nat.mul_le_mul_right _ hxy
    have hadd : (ln + n) * i.size = ln * i.size + n * i.size := Nat.add_mul _ _ _
    split at k
    · -- there is room that is known of
      rename_i hroom
      have hneed : ln + n ≤ rcap := by
        have h1 : (ln + n) * i.size ≤ rcap * i.size := by omega
        exact Nat.le_of_mul_le_mul_right h1 (Nat.pos_of_ne_zero hes)
      have hrun := run_append_in (P := P) (tt := tt) hu hi hty hd (base := some a) (sLen := ln) (sCap := rcap) hrl hrf hneed
      rw [hrun]
      rcases ha with ha | ha
      · have e1 : ln = 0 := by omega
        have e2 : n = 0 := by omega
        subst e1; subst e2; subst ha
        have hl0 : l = [] := List.length_eq_zero_iff.1 (by rw [← hr.length, hlen]; simp)
        have hn0 : new = [] := List.length_eq_zero_iff.1 (by rw [hlen]; simp)
        subst hl0; subst hn0
        have hup : h.upd b { h.get b with cells := splice (h.get b).cells (off + 0 * i.size) [] } = h := by
          unfold AH.upd
          congr 1
          funext j
          split
          · rename_i ej; subst ej; simp [splice]
          · rfl
        rw [hup] at k
        refine ⟨.slice (some a) (0 + 0) 0, w, _, m, h, by simp [storeCells], (Grow.refl _ _), s, ?_, k⟩
        simp only [VRel]
        exact ⟨p, a, 0, hp, rfl, by omega, by rw [hpes]; exact hR, .inl rfl⟩
      · subst ha
        obtain ⟨w', q1, q2⟩ := s.put (P := P) hp hm (off := off + ln * i.size) hr h1 (by rw [hlen]; omega)
        refine ⟨.slice (some ⟨p.rb, p.ro + off, none⟩) (ln + n) rcap, w', _, m, _, ?_, ?_, q2, ?_, k⟩
        · simp only [addr_add, Nat.add_assoc] at q1 ⊢
          rw [q1]; rfl
        · exact Grow.refl _ _
        · simp only [VRel]
          exact ⟨p, _, rcap, hp, rfl, hneed, by rw [hpes]; exact hR, .inr rfl⟩
    · rename_i hno
      obtain ⟨hroom, hlo, k⟩ := k
      by_cases hneed : ln + n ≤ rcap
      · -- in place, into room that only the world knows of
        have ha' : a = ⟨p.rb, p.ro + off, none⟩ := by
          rcases ha with e0 | ha
          · exfalso
            have e1 : ln = 0 := by omega
            have e2 : n = 0 := by omega
            subst e1; subst e2
            simp at hno hlo
            omega
          · exact ha
        subst ha'
        have hrun := run_append_in (P := P) (tt := tt) hu hi hty hd (base := some ⟨p.rb, p.ro + off, none⟩) (sLen := ln) (sCap := rcap) hrl hrf hneed
        have hin := hmul hneed
        obtain ⟨lo, o1, o2, o3, o4⟩ := s.read hp (by unfold live; unfold mine at hm; omega) hlo
        have hlen' : l.length = n * i.size := by rw [← hr.length, hlen]
        have hst := run_storeCells_at P p.rb (p.ro + off + ln * i.size) ec l 0 c w hc (by omega) h1
        simp only [Nat.add_zero] at hst
        rw [hrun]
        simp only [addr_add]
        rw [hst]
        generalize hc' : (c.toList.take (p.ro + off + ln * i.size) ++ l ++ c.toList.drop (p.ro + off + ln * i.size + l.length)).toArray = c'
        have hsz' : c'.size = c.size := by subst hc'; simp; omega
        have hget : ∀ j, j < p.ro + off + ln * i.size ∨ p.ro + off + ln * i.size + l.length ≤ j → c'[j]? = c[j]? := by
          intro j hj
          subst hc'
          rw [List.getElem?_toArray, splicev_out _ _ _ (by simp; omega) j hj, Array.getElem?_toList]
        have hnew : ∀ j, j < l.length → c'[p.ro + off + ln * i.size + j]? = l[j]? := by
          intro j hj
          subst hc'
          rw [List.getElem?_toArray, splicev_in _ _ _ (by simp; omega) j hj]
        have sk := (s.kill b).scribble ho hc hsz' (by
          intro b' q hq hx hrb j hj
          have hne : b' ≠ b := by
            intro e1; subst e1; simp [AH.kill, AH.upd] at hx
          have hge : (h.kill b).get b' = h.get b' := by simp [AH.kill, AH.upd, hne]
          rw [hge] at hx hj
          have hap := s.sep b' b q p hne hq hp hx hm
          refine hget _ ?_
          rcases hap with g | g | g
          · exact absurd hrb g
          · left; omega
          · right; omega)
        have hw := setRow_heap w p.rb c c' ec (0, 0) hc
        have hol : lo.length = ln * i.size := o3
        have hr1 := o1.length
        obtain ⟨q1, q2⟩ := sk.adopt ⟨((h.get b).cells.drop off).take (ln * i.size) ++ new, i.size, 0⟩ ⟨p.rb, p.ro + off, p.R - off, i.size⟩ rfl
          ⟨ho, fun _ => by simp only [List.length_append, hlen]; rw [hr1, o3]; omega, c', ec, hw, by simp only [Ab.ext, List.length_append, hlen]; rw [hr1, o3, hsz']; omega⟩
          ⟨rfl, fun j v hv => by
            by_cases hj : j < ln * i.size
            · have hv' : (((h.get b).cells.drop off).take (ln * i.size))[j]? = some v := by
                rw [← hv, List.getElem?_append_left (by rw [hr1, o3]; exact hj)]
              obtain ⟨v', g1, g2⟩ := o1.get j v hv'
              refine ⟨v', ?_, VRel.mono ?_ _ _ g2, o2 v' (List.mem_of_getElem? g1)⟩
              · have := o4 j v' g1
                rw [addr_add] at this
                unfold World.cell? at this ⊢
                rw [show w.heap[(⟨p.rb, p.ro + off + j, none⟩ : Addr).block]? = _ from hc] at this
                rw [show (w.setRow p.rb c').heap[(⟨p.rb, p.ro + off + j, none⟩ : Addr).block]? = _ from hw]
                have e1 := hget (p.ro + off + j) (by omega)
                simp at this ⊢
                rw [← this]; exact e1
              · intro x q hq
                have : x ≠ (h.kill b).n := fun e => by have := s.dom x q hq; simp only [AH.kill, AH.upd] at e; omega
                simp [BM.add, this, hq]
            · have hv' : new[j - ln * i.size]? = some v := by
                rw [← hv, List.getElem?_append_right (by rw [hr1, o3]; omega), hr1, o3]
              obtain ⟨v', g1, g2⟩ := hr.get _ v hv'
              refine ⟨v', ?_, VRel.mono ?_ _ _ g2, h1 v' (List.mem_of_getElem? g1)⟩
              · unfold World.cell?
                rw [show (w.setRow p.rb c').heap[(⟨p.rb, p.ro + off + j, none⟩ : Addr).block]? = _ from hw]
                have e1 := hnew (j - ln * i.size) (List.getElem?_eq_some_iff.1 g1).1
                rw [show p.ro + off + ln * i.size + (j - ln * i.size) = p.ro + off + j by omega, g1] at e1
                simp
                exact e1
              · intro x q hq
                have : x ≠ (h.kill b).n := fun e => by have := s.dom x q hq; simp only [AH.kill, AH.upd] at e; omega
                simp [BM.add, this, hq]⟩
          (by
            intro b' q hq hx
            have hne : b' ≠ b := by
              intro e1; subst e1; simp [AH.kill, AH.upd] at hx
            have hge : (h.kill b).get b' = h.get b' := by simp [AH.kill, AH.upd, hne]
            rw [hge] at hx ⊢
            have hap := s.sep b' b q p hne hq hp hx hm
            rcases hap with g | g | g
            · exact .inl g
            · right; left; simp only; omega
            · right; right
              simp only [Ab.ext, List.length_append, hlen]
              rw [hr1, o3]
              omega)
        refine ⟨_, _, _, _, _, rfl, ?_, q2, ?_, k⟩
        · exact q1
        simp only [VRel]
        exact ⟨⟨p.rb, p.ro + off, p.R - off, i.size⟩, ⟨p.rb, p.ro + off, none⟩, rcap, by simp [BM.add, AH.kill, AH.upd], rfl, hneed, by simp; omega, .inr rfl⟩
      · -- a new row
        have sd := (s.kill b).drew (w.drawn + 1)
        obtain ⟨l2, n2, hn2, hlen2, hr2, h12, hrl2, hrf2⟩ := first_cells (s.drew (w.drawn + 1)) (P := P) ry hnew hl
        rw [hn] at hn2; cases hn2
        have hxc : slcells h i.size (.sl b off ln) = some (((h.get b).cells.drop off).take (ln * i.size)) := by simp only [slcells]; rw [if_pos hlo]
        obtain ⟨l3, n3, hn3, hlen3, hr3, h13, hrl3, hrf3⟩ := first_cells (s.drew (w.drawn + 1)) (P := P) (y := .sl b off ln) (vy := .slice (some a) ln rcap) (by simp only [VRel]; exact ⟨p, a, rcap, hp, rfl, hle, by rw [hpes]; exact hR, ha⟩) hxc (.inr (by unfold live; unfold mine at hm; omega))
        simp only [sllen, Option.some.injEq] at hn3; subst hn3
        have hgt : rcap < ln + n := by omega
        have := run_append_new (tt := tt) hu hi hz hty hd (base := some a) (sLen := ln) (sCap := rcap) (n := n) (new := l2.toArray) (old := l3.toArray) hrl hrf2 hrf3 hgt hb (by omega)
        rw [this]
        have hge := grownCap_ge w (ln + n) rcap e
        have hl2 := hr2.length
        have hl3 := hr3.length
        have hmg := hmul hge
        obtain ⟨g1, g2⟩ := make_block sd (es := i.size) (cs := ((h.get b).cells.drop off).take (ln * i.size) ++ new) (c := l3.toArray ++ l2.toArray ++ Builtin.zeroCells z.cells (grownCap w (ln + n) rcap e - (ln + n))) e (grownCap w (ln + n) rcap e * i.size)
          (fun _ => by rw [List.length_append, hlen2, hlen3]; omega) (by
            simp only [List.length_append, Array.size_append, List.size_toArray, size_zeroCells, hzs]
            rw [← hl2, ← hl3, hlen2, hlen3, Nat.sub_mul]
            omega) (hr3.append hr2) (fun j v hv => by
              have hj := (List.getElem?_eq_some_iff.1 hv).1
              simp only [List.length_append] at hj
              rw [← hv]
              simp only [Array.getElem?_append, List.getElem?_append, List.getElem?_toArray, List.size_toArray, Array.size_append]
              grind) (by
              intro x hx
              rcases List.mem_append.1 hx with hx | hx
              · exact h13 x hx
              · exact h12 x hx)
        refine ⟨_, _, _, _, _, rfl, ?_, g2, ?_, k⟩
        · exact g1
        simp only [VRel]
        exact ⟨⟨w.heap.size, 0, grownCap w (ln + n) rcap e * i.size, i.size⟩, ⟨w.heap.size, 0, none⟩, grownCap w (ln + n) rcap e, by simp [BM.add, AH.kill, AH.upd], rfl, hge, by simp, .inr rfl⟩
  · exact g.elim

end Go.Ab
