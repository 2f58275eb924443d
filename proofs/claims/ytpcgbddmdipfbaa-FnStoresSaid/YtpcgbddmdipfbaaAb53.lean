/- An element of a slice of one's own, under change. -/
import Derived.Test.YtpcgbddmdipfbaaAb46
set_option linter.unusedSimpArgs false
set_option linter.unusedVariables false
namespace Go.Ab
open Go.RowKit

/-- The element 'i' of a slice, at 'b', 'o': its cells are 'E' now; 'R' are the slice's blocks but for the element's own. -/
structure Elt (α : Type) [Cel α] (n : Nat) (h : AH) (b o : Nat) (E : List AV) (v : AV) (xs : List α) (i : Nat) (R : List Nat) : Prop where
  lt : b < h.n
  mem : b ∈ R
  own : OwnL n h R
  st : ∃ A Z, h.get b = ⟨A ++ (E ++ Z), Cel.w α, 0⟩ ∧ A.length = o ∧
    ∀ (h' : AH) (x' : α) (E' : List AV) (Fi' : List Nat), h'.get b = ⟨A ++ (E' ++ Z), Cel.w α, 0⟩ → h.n ≤ h'.n → (∀ c ∈ R, c ≠ b → h'.get c = h.get c) → Cel.rep h' x' E' Fi' → Own n h' Fi' → (∀ c ∈ Fi', c ∉ R) → ∃ F', SlRep h' v (xs.set i x') F' ∧ Own n h' F' ∧ ∀ c ∈ F', c ∈ R ∨ c ∈ Fi'
section
variable {α : Type} [Cel α] {P : Program} {n b o i : Nat} {g h h' : AH} {E E' : List AV} {v : AV} {xs : List α} {R X F : List Nat} {Q : Nat → List AV → AH → Prop} {k : AV → Prog}
theorem perm_ins {b : Nat} {F1 G F2 : List Nat} : (b :: (F1 ++ (G ++ F2))).Perm ((b :: (F1 ++ F2)) ++ G) := by
  rw [List.cons_append, List.append_assoc]
  exact List.Perm.cons _ (List.Perm.append_left _ List.perm_append_comm)
theorem own_perm {F G : List Nat} (p : F.Perm G) (o : Own n h G) : Own n h F := ⟨p.nodup_iff.2 o.1, fun b hb => o.2 b (p.mem_iff.1 hb)⟩
theorem SlRep.elt (r : SlRep h v xs F) (ow : Own n h F) {x : α} (hx : xs[i]? = some x) : ∃ b off E Fi R, v = .sl b off xs.length ∧ Cel.rep h x E Fi ∧ OwnL n h Fi ∧ Elt α n h b (off + i * Cel.w α) E v xs i R ∧ (∀ c ∈ Fi, c ∉ R) ∧ (∀ c ∈ R, c ∈ F) ∧ ∀ c ∈ Fi, c ∈ F := by
  have lt := r.lt
  obtain ⟨b, off, A, E, Z, F1, Fi, F2, rfl, rfl, hb, hl, hes, hcs, hA, re, back⟩ := r.zip hx
  have hm : (h.get b).st = 0 := (ow.2 b (by simp)).2
  have hg : h.get b = ⟨A ++ (E ++ Z), Cel.w α, 0⟩ := by
    have : h.get b = ⟨(h.get b).cells, (h.get b).es, (h.get b).st⟩ := rfl
    rw [this, hcs, hes, hm]
  have o2 := own_perm perm_ins.symm ow
  have nd := List.nodup_append.1 o2.1
  have oR : Own n h (b :: (F1 ++ F2)) := ⟨nd.1, fun c hc => o2.2 c (List.mem_append_left _ hc)⟩
  have oF : Own n h Fi := ⟨nd.2.1, fun c hc => o2.2 c (List.mem_append_right _ hc)⟩
  have mR : ∀ c ∈ b :: (F1 ++ F2), c ∈ b :: (F1 ++ (Fi ++ F2)) := fun c hc => perm_ins.mem_iff.2 (List.mem_append_left _ hc)
  have mF : ∀ c ∈ Fi, c ∈ b :: (F1 ++ (Fi ++ F2)) := fun c hc => perm_ins.mem_iff.2 (List.mem_append_right _ hc)
  refine ⟨b, off, E, Fi, b :: (F1 ++ F2), rfl, re, ⟨oF, fun c hc => lt c (mF c hc)⟩, ⟨hb, List.mem_cons_self, ⟨oR, fun c hc => lt c (mR c hc)⟩, ⟨A, Z, hg, hA, fun h' x' E' Fi' hg' hn hk re' ow' hd => ?_⟩⟩, fun c hc hR => nd.2.2 c hR c hc rfl, mR, mF⟩
  have hbn : b ∉ F1 ++ F2 := (List.nodup_cons.1 nd.1).1
  have kk : ∀ c ∈ F1 ++ F2, h'.get c = h.get c ∧ c < h'.n := fun c hc => ⟨hk c (List.mem_cons_of_mem _ hc) fun e => hbn (e ▸ hc), Nat.lt_of_lt_of_le (lt c (mR c (List.mem_cons_of_mem _ hc))) hn⟩
  refine ⟨b :: (F1 ++ (Fi' ++ F2)), back h' x' E' Fi' (by rw [hg']) (by rw [hg']) (by simp [live, hg']) (Nat.lt_of_lt_of_le hb hn) kk re', own_perm perm_ins ⟨List.nodup_append.2 ⟨oR.1, ow'.1, fun a ha c hc e => hd c hc (e ▸ ha)⟩, fun c hc => ?_⟩, fun c hc => List.mem_append.1 (perm_ins.mem_iff.1 hc)⟩
  rcases List.mem_append.1 hc with q | q
  · refine ⟨(oR.2 c q).1, ?_⟩
    rcases List.mem_cons.1 q with e | e
    · subst e; rw [hg']
    · rw [(kk c e).1]; exact (oR.2 c q).2
  · exact ow'.2 c q
theorem Elt.at_ (e : Elt α n h b o E v xs i R) : At h b o E := by
  obtain ⟨A, Z, hg, hA, _⟩ := e.st
  exact at_z (es := Cel.w α) (st := 0) e.lt (by simp [live, hg]) (by rw [hg]) hA
theorem Elt.keep (e : Elt α n h b o E v xs i R) (hk : ∀ c ∈ R, h'.get c = h.get c) (hn : h.n ≤ h'.n) : Elt α n h' b o E v xs i R := by
  obtain ⟨A, Z, hg, hA, back⟩ := e.st
  refine ⟨Nat.lt_of_lt_of_le e.lt hn, e.mem, ⟨e.own.1.mono (Nat.le_refl _) hk, fun c hc => Nat.lt_of_lt_of_le (e.own.2 c hc) hn⟩, A, Z, by rw [hk b e.mem]; exact hg, hA, fun h2 x' E' Fi' hg' hn' hk' => back h2 x' E' Fi' hg' (Nat.le_trans hn hn') fun c hc hne => (hk' c hc hne).trans (hk c hc)⟩
theorem Elt.kp (e : Elt α n h b o E v xs i R) (k : Kp h h' X) (hd : ∀ c ∈ R, c ∉ X) : Elt α n h' b o E v xs i R := e.keep (fun c hc => k.2 c (e.own.2 c hc) (hd c hc)) k.1
theorem Elt.ext (e : Elt α n h b o E v xs i R) (k : Ext h h') : Elt α n h' b o E v xs i R := e.keep (fun c hc => k.2 c (e.own.2 c hc)) k.1
theorem Elt.push (e : Elt α n h b o E v xs i R) (kk : Blk) : Elt α n (h.push kk) b o E v xs i R := e.ext ((Ext.refl h).push kk)
/-- A store into the element. -/
theorem Elt.st_ {j m : Nat} {y : AV} {ys : List AV} (e : Elt α n h b o E v xs i R) (hx : y.cells? = some ys) (hn : ys.length = m) (s : SP E j ys E') (hk : ∀ h2, Elt α n h2 b o E' v xs i R → Kp h h2 [b] → h2.n = h.n → (k (.tup [])).awp P h2 Q) : (Prog.op (.st m (.ptr b (o + j)) y) k).awp P h Q := by
  obtain ⟨A, Z, hg, hA, back⟩ := e.st
  refine w_stz hg hA hx hn s ?_
  refine hk _ ⟨by simpa using e.lt, e.mem, ⟨⟨e.own.1.1, fun c hc => ⟨(e.own.1.2 c hc).1, ?_⟩⟩, fun c hc => by simpa using e.own.2 c hc⟩, A, Z, by simp, hA, fun h2 x' E2 Fi' hg' hn' hk' => back h2 x' E2 Fi' hg' (by simpa using hn') fun c hc hne => by rw [hk' c hc hne]; simp [hne]⟩ ⟨by simp, fun c hc hX => by have : c ≠ b := fun q => hX (q ▸ List.mem_singleton.2 rfl); simp [this]⟩ (by simp)
  by_cases q : c = b
  · subst q; simp
  · simp only [upd_get, q, if_false]; exact (e.own.1.2 c hc).2
theorem Elt.st0 {m : Nat} {y : AV} {ys : List AV} (e : Elt α n h b o E v xs i R) (hx : y.cells? = some ys) (hn : ys.length = m) (s : SP E 0 ys E') (hk : ∀ h2, Elt α n h2 b o E' v xs i R → Kp h h2 [b] → h2.n = h.n → (k (.tup [])).awp P h2 Q) : (Prog.op (.st m (.ptr b o) y) k).awp P h Q := e.st_ (j := 0) hx hn s hk
/-- The element is whole again. -/
theorem Elt.done (e : Elt α n h b o E v xs i R) {x' : α} {Fi' : List Nat} (re : Cel.rep h x' E Fi') (ow : Own n h Fi') (hd : ∀ c ∈ Fi', c ∉ R) : ∃ F', SlRep h v (xs.set i x') F' ∧ Own n h F' ∧ ∀ c ∈ F', c ∈ R ∨ c ∈ Fi' := by
  obtain ⟨A, Z, hg, hA, back⟩ := e.st
  exact back h x' E Fi' hg (Nat.le_refl _) (fun _ _ _ => rfl) re ow hd
end
end Go.Ab
