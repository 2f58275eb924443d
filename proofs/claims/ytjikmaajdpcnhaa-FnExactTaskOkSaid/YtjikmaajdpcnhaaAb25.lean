/- What comes in: the memory that a law reads, as blocks that are read only. -/
import Derived.Test.YtjikmaajdpcnhaaAb24
import Derived.SizedLaws
import Derived.Carry
import Derived.OpenShut
set_option linter.unusedSimpArgs false
set_option linter.unusedVariables false
namespace Go.Ab
open Go.RowKit

theorem mapM_len {α β : Type} {f : α → Option β} : ∀ {l : List α} {r : List β}, l.mapM f = some r → r.length = l.length
  | [], r, h => by simp at h; simp [h]
  | a :: l, r, h => by
    rw [List.mapM_cons] at h
    cases hx : f a with
    | none => simp [hx] at h
    | some x =>
      cases hy : l.mapM f with
      | none => simp [hx, hy] at h
      | some y =>
        simp [hx, hy] at h
        subst h
        simp [mapM_len hy]
theorem mapM_at {α β : Type} {f : α → Option β} : ∀ {l : List α} {r : List β}, l.mapM f = some r → ∀ (i : Nat) (a : α), l[i]? = some a → ∃ b, f a = some b ∧ r[i]? = some b
  | [], r, h, i, a, ha => by simp at ha
  | x :: l, r, h, i, a, ha => by
    rw [List.mapM_cons] at h
    cases hx : f x with
    | none => simp [hx] at h
    | some u =>
      cases hy : l.mapM f with
      | none => simp [hx, hy] at h
      | some y =>
        simp [hx, hy] at h
        subst h
        cases i with
        | zero => simp at ha; subst ha; exact ⟨u, hx, rfl⟩
        | succ i => simp at ha; simpa using mapM_at hy i a ha

variable {w0 W : World} {B : Nat} {m : BM} {h : AH} {P : Program}

/-- A block that is read only. -/
theorem Sim.addRo {w : World} (s : Sim B w0 m h w) (k : Blk) (hst : k.st = 1) (p : Pl) (hp : p.rb < B ∨ k.cells = []) (hb : BRel (m.add h.n p) k p w) :
    m.le (m.add h.n p) ∧ Ext h (h.push k) ∧ Sim B w0 (m.add h.n p) (h.push k) w := by
  have hle : m.le (m.add h.n p) := by
    intro b q hq
    have : b ≠ h.n := fun e => by have := s.dom b q hq; omega
    simp [BM.add, this, hq]
  have old : ∀ b q, b ≠ h.n → m.add h.n p b = some q → m b = some q ∧ (h.push k).get b = h.get b := by
    intro b q hne hq
    simp only [BM.add, hne, if_false] at hq
    exact ⟨hq, by simp [AH.push, hne]⟩
  have new : ∀ q, m.add h.n p h.n = some q → q = p ∧ (h.push k).get h.n = k := by
    intro q hq
    simp only [BM.add, if_true, Option.some.injEq] at hq
    exact ⟨hq.symm, by simp [AH.push]⟩
  refine ⟨hle, (Ext.refl h).push k, s.below, s.room, ?_, ?_, ?_, ?_, ?_, ?_, ?_⟩
  · intro b q hq
    by_cases e : b = h.n
    · subst e; simp [AH.push]
    · have := s.dom b q (old b q e hq).1; simp only [AH.push]; omega
  · intro b q hq hx
    by_cases e : b = h.n
    · subst e
      obtain ⟨rfl, e2⟩ := new q hq
      rw [e2]; exact hb
    · obtain ⟨h1, h2⟩ := old b q e hq
      rw [h2] at hx ⊢
      exact (s.blk b q h1 hx).mono hle
  · intro b q hq hx
    by_cases e : b = h.n
    · subst e
      obtain ⟨rfl, e2⟩ := new q hq
      rw [e2] at hx; omega
    · obtain ⟨h1, h2⟩ := old b q e hq
      rw [h2] at hx ⊢
      exact s.own b q h1 hx
  · intro b q hq hx
    by_cases e : b = h.n
    · subst e
      obtain ⟨rfl, e2⟩ := new q hq
      rw [e2]; exact hp
    · obtain ⟨h1, h2⟩ := old b q e hq
      rw [h2] at hx ⊢
      exact s.old b q h1 hx
  · intro b b' q q' hne hq hq' hx hx'
    by_cases e : b = h.n
    · subst e
      obtain ⟨rfl, e2⟩ := new q hq
      rw [e2] at hx; omega
    · obtain ⟨h1, h2⟩ := old b q e hq
      rw [h2] at hx ⊢
      by_cases e' : b' = h.n
      · subst e'
        obtain ⟨rfl, e2⟩ := new q' hq'
        rw [e2] at hx'; omega
      · obtain ⟨h1', h2'⟩ := old b' q' e' hq'
        rw [h2'] at hx' ⊢
        exact s.sep b b' q q' hne h1 h1' hx hx'
  · intro b
    by_cases e : b = h.n
    · subst e; simp [AH.push, hst]
    · simp only [AH.push, e, if_false]; exact s.sts b
  · intro b hb
    have e : b ≠ h.n := fun e => by simp only [AH.push] at hb; omega
    simp only [AH.push, e, if_false] at hb ⊢
    exact s.fresh b (by omega)

/-- What is read stands for a value. -/
def OpensF (α : Type) [Cel α] (P : Program) (t : TypeId) (fuel : Nat) : Prop :=
  ∀ (H : Type) (enc : TypeId × Value → H) (W : World) (held : Bool) (cs : List Value) (d : DataW H) (ps : List MemPlace), DataW.trod enc P W 0 (fun _ => true) held fuel t cs = some (d, ps) → (∀ n ∈ d.weights P t, n ≤ reachBytes) →
    ∀ (w0 : World) (m : BM) (h : AH), Sim W.heap.size w0 m h W → ∃ (m' : BM) (h' : AH) (avs : List AV) (x : α) (F : List Nat), Ext h h' ∧ m.le m' ∧ Sim W.heap.size w0 m' h' W ∧ VRels m' avs cs ∧ (∀ v ∈ cs, v.oneCell' = true) ∧ Cel.rep h' x avs F ∧ Cel.ok x

theorem vrels_one {av : AV} {v : Value} (r : VRel m av v) : VRels m [av] [v] := VRels.cons r VRels.nil

theorem wf_rng {n : Int} (hw : (Lit.int .i64 n).wf = true) : rng n := by
  simp only [Lit.wf, Bool.and_eq_true, decide_eq_true_eq] at hw
  have h1 : IntKind.i64.min = -9223372036854775808 := by decide
  have h2 : IntKind.i64.max = 9223372036854775807 := by decide
  unfold rng
  omega

theorem opens_int {t : TypeId} {fuel : Nat} (ht : P.underlying t = some (.int .i64)) : OpensF Int P t fuel := by
  intro H enc W held cs d ps hd _ w0 m h s
  obtain ⟨n, rfl, _, hw⟩ := DataW.trod_int ht hd
  exact ⟨m, h, [.int .i64 n], n, [], Ext.refl _, m.le_refl, s, vrels_one (by simp only [VRel]), by simp [Value.oneCell'], ⟨rfl, rfl⟩, wf_rng hw⟩

theorem weightsAll_of {H : Type} {e : TypeId} : ∀ {l : List (DataW H)}, (∀ n ∈ DataW.weightsAll P e l, n ≤ reachBytes) → ∀ d ∈ l, ∀ n ∈ d.weights P e, n ≤ reachBytes
  | [], _, d, hd => by cases hd
  | x :: l, hh, d, hd => by
    intro n hn
    rcases List.mem_cons.1 hd with rfl | hd
    · exact hh n (by unfold DataW.weightsAll; exact List.mem_append_left _ hn)
    · exact weightsAll_of (l := l) (fun n hn => hh n (by unfold DataW.weightsAll; exact List.mem_append_right _ hn)) d hd n hn

/-- What of a slice's cells is told. -/
def Cells (m : BM) (W : World) (a : Addr) (avs : List AV) : Prop := ∀ (j : Nat) (av : AV), avs[j]? = some av → ∃ v, W.cell? ⟨a.block, a.off + j, none⟩ = some v ∧ VRel m av v ∧ v.oneCell' = true

theorem addr_at {a : Addr} (ha : a.spot = none) (n : Nat) : a.add n = ⟨a.block, a.off + n, none⟩ := by
  unfold Addr.add
  split
  · rename_i h; subst h; cases a; simp_all
  · rfl

theorem spot_none {a : Addr} {v : Value} (h : W.cell? a = some v) : a.spot = none := by
  unfold World.cell? at h
  split at h
  · split at h
    · cases h
    · rename_i hs; simpa using hs
  · cases h

theorem opens_elems {α : Type} [Cel α] {e : TypeId} {n : Nat} (hw : P.cellsOf e = Cel.w α) (ho : OpensF α P e n) {H : Type} {enc : TypeId × Value → H} {held : Bool} {a : Addr} (ha : a.spot = none) {elems : List (DataW H × List MemPlace)} {len : Nat} (hlen : elems.length = len)
    (hel : ∀ i, i < len → (W.cells? 0 (a.add (i * P.cellsOf e)) (P.cellsOf e)).bind (DataW.trod enc P W 0 (fun _ => true) held n e) = elems[i]?)
    (hwt : ∀ d ∈ elems.map (·.1), ∀ n ∈ d.weights P e, n ≤ reachBytes) (s : Sim W.heap.size w0 m h W) :
    ∀ k, k ≤ len → ∃ (m' : BM) (h' : AH) (avs : List AV) (xs : List α) (F : List Nat), Ext h h' ∧ m.le m' ∧ Sim W.heap.size w0 m' h' W ∧ Reps h' xs avs F ∧ xs.length = k ∧ Cells m' W a avs ∧ ∀ x ∈ xs, Cel.ok x := by
  intro k
  induction k with
  | zero => exact fun _ => ⟨m, h, [], [], [], Ext.refl _, m.le_refl, s, ⟨rfl, rfl⟩, rfl, fun j av hj => by simp at hj, by simp⟩
  | succ k ih =>
    intro hk
    obtain ⟨m1, h1, avs, xs, F, e1, l1, s1, r1, hx, hc, hok⟩ := ih (by omega)
    have hel := hel k (by omega)
    rw [List.getElem?_eq_getElem (by omega)] at hel
    cases hcs : W.cells? 0 (a.add (k * P.cellsOf e)) (P.cellsOf e) with
    | none => rw [hcs] at hel; simp at hel
    | some ck =>
      rw [hcs] at hel
      simp only [Option.bind_some] at hel
      obtain ⟨m2, h2, avk, x, Fk, e2, l2, s2, vr, h1c, rx, okx⟩ := ho H enc W held ck _ _ (show _ = some (elems[k].1, elems[k].2) from hel) (hwt _ (List.mem_map.2 ⟨elems[k], List.getElem_mem _, rfl⟩)) w0 m1 h1 s1
      obtain ⟨_, hckl, hck⟩ := World.cells?_some hcs
      refine ⟨m2, h2, avs ++ avk, xs ++ [x], F ++ Fk, e1.trans e2, BM.le_trans l1 l2, s2, (r1.ext e2).snoc rx, by simp [hx], ?_, ?_⟩
      · intro j av hj
        have hl := r1.length
        rw [hx] at hl
        by_cases hlt : j < avs.length
        · rw [List.getElem?_append_left hlt] at hj
          obtain ⟨v, g1, g2, g3⟩ := hc j av hj
          exact ⟨v, g1, VRel.mono l2 _ _ g2, g3⟩
        · rw [List.getElem?_append_right (by omega)] at hj
          obtain ⟨v, g1, g2⟩ := vr.get _ _ hj
          have hjw : j - avs.length < P.cellsOf e := by
            have := (List.getElem?_eq_some_iff.1 g1).1; omega
          have := hck (j - avs.length) hjw
          rw [g1, addr_at ha, addr_at rfl] at this
          refine ⟨v, ?_, g2, h1c v (List.mem_of_getElem? g1)⟩
          rw [← this]
          have : a.off + j = a.off + k * P.cellsOf e + (j - avs.length) := by rw [hw]; omega
          rw [this]
      · intro y hy
        rcases List.mem_append.1 hy with hy | hy
        · exact hok y hy
        · simp at hy; subst hy; exact okx

theorem opens_slice {α : Type} [Cel α] {t e : TypeId} {fuel : Nat} (ht : P.underlying t = some (.slice e)) (hw : P.cellsOf e = Cel.w α) (hb : 1 ≤ P.bytesOf e) (ho : ∀ n, n < fuel → OpensF α P e n) : OpensF (List α) P t fuel := by
  intro H enc W held cs d ps hd hwt w0 m h s
  have hpos := Cel.pos (α := α)
  rcases DataW.trod_slice ht hd with ⟨rfl, hx⟩ | ⟨a, len, cap, elems, rest, n, rfl, rfl, hx, _, hlc, _, hlen, hel, hrest, _⟩
  · exact ⟨m, h, [.nils], [], [], Ext.refl _, m.le_refl, s, vrels_one (by simp only [VRel]), by simp [Value.oneCell'], ⟨.nils, rfl, SlRep.nils⟩, by simp [Cel.ok]⟩
  · cases hx
    obtain ⟨hr1, hr2⟩ := hrest rfl
    have hspot : 0 < cap → a.spot = none := by
      intro hcap
      have : ∃ ck, W.cells? 0 a (P.cellsOf e) = some ck := by
        by_cases h0 : 0 < len
        · have := hel 0 h0
          rw [List.getElem?_eq_getElem (by omega)] at this
          simp only [Nat.zero_mul, Addr.add, if_true] at this
          cases hc : W.cells? 0 a (P.cellsOf e) with
          | none => rw [hc] at this; simp at this
          | some ck => exact ⟨ck, rfl⟩
        · have := hr2 0 (by omega)
          rw [List.getElem?_eq_getElem (by omega)] at this
          have e0 : len + 0 = 0 := by omega
          simp only [e0, Nat.zero_mul, Addr.add, if_true] at this
          cases hc : W.cells? 0 a (P.cellsOf e) with
          | none => rw [hc] at this; simp at this
          | some ck => exact ⟨ck, rfl⟩
      obtain ⟨ck, hck⟩ := this
      obtain ⟨_, hl, hc⟩ := World.cells?_some hck
      have := hc 0 (by omega)
      rw [List.getElem?_eq_getElem (by omega)] at this
      simp only [Addr.add, if_true] at this
      exact spot_none this
    have hwt' := hwt
    simp only [DataW.weights, ht, List.mem_cons, List.mem_append, forall_eq_or_imp] at hwt'
    obtain ⟨hw1, hw2⟩ := hwt'
    simp only [List.length_map] at hw1
    have hsmall : len < 281474976710656 := by
      have : elems.length + rest.length ≤ (elems.length + rest.length) * P.bytesOf e := Nat.le_mul_of_pos_right _ hb
      have hrb : reachBytes = 140737488351232 := rfl
      omega
    have key : ∃ (m' : BM) (h' : AH) (avs : List AV) (xs : List α) (F : List Nat), Ext h h' ∧ m.le m' ∧ Sim W.heap.size w0 m' h' W ∧ Reps h' xs avs F ∧ xs.length = len ∧ Cells m' W a avs ∧ ∀ x ∈ xs, Cel.ok x := by
      by_cases h0 : 0 < cap
      · exact opens_elems hw (ho n (by omega)) (hspot h0) hlen hel (fun d hd n hn => weightsAll_of (fun n hn => hw2 n (.inl hn)) d hd n hn) s len (Nat.le_refl _)
      · have : len = 0 := by omega
        subst this
        exact ⟨m, h, [], [], [], Ext.refl _, m.le_refl, s, ⟨rfl, rfl⟩, rfl, fun j av hj => by simp at hj, by simp⟩
    obtain ⟨m1, h1, avs, xs, F, e1, l1, s1, r1, hx, hc, hok⟩ := key
    have hal := r1.length
    obtain ⟨l2, e2, s2⟩ := s1.addRo ⟨avs, Cel.w α, 1⟩ rfl ⟨a.block, a.off, cap * Cel.w α, Cel.w α⟩ (by
      cases avs with
      | nil => exact .inr rfl
      | cons av avs =>
        obtain ⟨v, g1, _⟩ := hc 0 av rfl
        left
        unfold World.cell? at g1
        split at g1
        · rename_i hh; exact (Array.getElem?_eq_some_iff.1 hh).1
        · cases g1) ⟨rfl, fun i v hv => by
        obtain ⟨v', g1, g2, g3⟩ := hc i v hv
        exact ⟨v', g1, VRel.mono (le_add _ (by
          cases hm : m1 h1.n with
          | none => rfl
          | some q => have := s1.dom _ _ hm; omega)) _ _ g2, g3⟩⟩
    refine ⟨_, _, [.sl h1.n 0 len], xs, h1.n :: F, e1.trans e2, BM.le_trans l1 l2, s2, vrels_one ?_, by simp [Value.oneCell'], ⟨_, rfl, .inr ⟨h1.n, 0, F, avs, by rw [hx], rfl, by simp, by simp [live], by simp, ?_, by omega, ?_, r1.ext e2⟩⟩, hok⟩
    · simp only [VRel]
      refine ⟨⟨a.block, a.off, cap * Cel.w α, Cel.w α⟩, a, cap, by simp [BM.add], rfl, hlc, by simp, ?_⟩
      by_cases h0 : cap = 0
      · exact .inl h0
      · right
        have := hspot (by omega)
        cases a; simp_all
    · simp [hal]
    · simp [← hal]

end Go.Ab
