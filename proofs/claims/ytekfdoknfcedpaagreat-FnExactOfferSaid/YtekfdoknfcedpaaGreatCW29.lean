import Derived.Test.YtekfdoknfcedpaaGreatCW26
import Derived.Test.YtekfdoknfcedpaaGreatCKW3
/- Worlds: which may be, by the program. -/
set_option linter.unusedSimpArgs false
set_option linter.unusedVariables false
set_option maxHeartbeats 4000000
namespace Go.Proofs.YtekfdoknfcedpaaGreat
open Go Go.Ab
section
/- impl.WorldOk -/
def p_impl_WorldOk (x0 : AV) : Prog := .op (.box x0) fun a=>Ld 32 a fun b=>Cl n_impl_valuesOk [b] fun b=>.gop b true (.ldn 32 a) fun c=>.gop b true (.call n_impl_tasksOk [c]) fun c=>Pk b c (.bool false) fun b=>.gop b true (.ldn 32 a) fun a=>.gop b true (.call n_impl_stampsOk [a]) fun a=>Pk b a (.bool false) fun a=>.fin [.val a]
theorem c_impl_WorldOk (x0 : AV) : CC Tryz.prog n_impl_WorldOk [x0] (p_impl_WorldOk x0) := cc Tryz.func43
end
theorem wheel_tm {w : Wheel} (h : wheelOk w) : ∀ t ∈ timers w, 1 ≤ t.id ∧ (1 ≤ t.trace ∧ t.trace ≤ 999) := by
  obtain ⟨-, h1, h2, h3, h4, -⟩ := h
  intro t ht
  unfold timers at ht
  rcases List.mem_append.1 ht with ht | ht
  · rcases List.mem_append.1 ht with ht | ht
    · obtain ⟨a, ha, hta⟩ := List.mem_flatten.1 ht
      obtain ⟨i, hi⟩ := List.mem_iff_getElem?.1 ha
      have hlt := (List.getElem?_eq_some_iff.1 hi).1
      obtain ⟨b, hb, -, -⟩ := drop_step (show i < w.far.length by omega)
      have k := (h4 i a b hi hb).1 t hta
      exact ⟨k.1, k.2.1⟩
    · obtain ⟨b, hb, htb⟩ := List.mem_flatten.1 ht
      obtain ⟨i, hi⟩ := List.mem_iff_getElem?.1 hb
      have hlt := (List.getElem?_eq_some_iff.1 hi).1
      obtain ⟨a, ha, -, -⟩ := drop_step (show i < w.near.length by omega)
      have k := (h4 i a b ha hi).2 t htb
      exact ⟨k.1, k.2.1⟩
  · have k := h3 t ht
    exact ⟨k.1, k.2.1⟩
theorem locks_r {n : Nat} {l : List Task} : ∀ {k : Nat} {hs : List Int} {r : Int}, locks n l k = some (hs, r) → -1 ≤ r ∧ r < k
  | 0, hs, r, h => by simp only [locks, Option.some.injEq, Prod.mk.injEq] at h; omega
  | k + 1, hs, r, h => by
    rcases e : locks n l k with _ | ⟨hs0, r0⟩
    · simp [locks, e] at h
    · rcases e2 : l[k]? with _ | t
      · simp [locks, e, e2] at h
      · have ih := locks_r e
        simp only [locks, e, e2, lockStep] at h
        rcases e3 : takeS n hs0 k t with _ | a
        · simp [e3] at h
        · rcases e4 : takeR r0 k t with _ | b
          · simp [e4] at h
          · simp only [e3, e4, Option.some.injEq, Prod.mk.injEq] at h
            unfold takeR at e4
            split at e4
            · split at e4
              · simp at e4; omega
              · cases e4
            · simp at e4; omega
theorem mem_allT {l : List Stripe} {t : Trail} : t ∈ allT l ↔ ∃ s ∈ l, t ∈ s.l := by unfold allT; exact List.mem_flatMap
theorem world_iff {x : Wld} : (valsOk x ∧ (-1 ≤ x.ruleHeld ∧ x.ruleHeld ≤ 4) ∧ dueOk x) ∧ tasksP x ∧ stampsI x ↔ worldOk x := by
  have hmem : ∀ n, n ∈ stampsL x ↔ (∃ t ∈ allTm x, t.id = n) ∨ (∃ v ∈ x.cache, v.stamp = n) ∨ (∃ t ∈ x.tasks, t.stamp = n) ∨ ∃ t ∈ allT x.st, t.stamp = n := by
    intro n; unfold stampsL; simp only [List.mem_append, List.mem_map]
  constructor
  · rintro ⟨⟨hv, hr, hd⟩, ⟨h5, ht, hl⟩, hk, hn⟩
    refine ⟨hv, h5, ⟨?_, ?_, ?_⟩, ?_, hl⟩
    · intro i s hs t hts
      have hm : t ∈ allT x.st := mem_allT.2 ⟨s, List.mem_of_getElem? hs, hts⟩
      exact ⟨hn _ ((hmem _).2 (.inr (.inr (.inr ⟨t, hm, rfl⟩)))), hk t hm⟩
    · intro v hv2
      exact hn _ ((hmem _).2 (.inr (.inl ⟨v, hv2, rfl⟩)))
    · intro t ht2
      have h1 := hn _ ((hmem _).2 (.inl ⟨t, ht2, rfl⟩))
      have h2 : 1 ≤ t.id ∧ (1 ≤ t.trace ∧ t.trace ≤ 999) := by
        rcases List.mem_append.1 ht2 with h | h
        · exact wheel_tm hv.2.2.2.2.2.2.2.2.2.2.2.2.1 t h
        · exact hd t h
      omega
    · intro k t hkt
      exact ⟨ht k t hkt, hn _ ((hmem _).2 (.inr (.inr (.inl ⟨t, List.mem_of_getElem? hkt, rfl⟩))))⟩
  · rintro ⟨hv, h5, ⟨hA, hB, hC⟩, hT, hl⟩
    obtain ⟨hs, r, hlk, hh, hr⟩ := hl
    have hrb := locks_r hlk
    refine ⟨⟨hv, by omega, fun t ht => ?_⟩, ⟨h5, fun k t hk => (hT k t hk).1, hs, r, hlk, hh, hr⟩, fun t ht => ?_, fun n hn => ?_⟩
    · have := hC t (List.mem_append_right _ ht); omega
    · obtain ⟨s, hs, hts⟩ := mem_allT.1 ht
      obtain ⟨i, hi⟩ := List.mem_iff_getElem?.1 hs
      exact (hA i s hi t hts).2
    · rcases (hmem n).1 hn with ⟨t, ht, rfl⟩ | ⟨v, hv, rfl⟩ | ⟨t, ht, rfl⟩ | ⟨t, ht, rfl⟩
      · have := hC t ht; omega
      · exact hB v hv
      · obtain ⟨i, hi⟩ := List.mem_iff_getElem?.1 ht
        exact (hT i t hi).2
      · obtain ⟨s, hs, hts⟩ := mem_allT.1 ht
        obtain ⟨i, hi⟩ := List.mem_iff_getElem?.1 hs
        exact (hA i s hi t hts).1
theorem s_impl_WorldOk {h : AH} {x : Wld} {cs : List AV} {F : List Nat} (ok : Cel.ok x) (hs : Sz.sz x ≤ 67108864) (r : Cel.rep h x cs F) :
    RCalls Tryz.prog n_impl_WorldOk [.agg cs] h (.bool (bp (worldOk x))) := by
  obtain ⟨v0, v1, v2, v3, v4, v5, v6, v7, v8, v9, v10, F0, F1, F2, F3, F4, F5, F6, F7, F8, F9, F10, rfl, rfl, r0, r1, r2, r3, r4, r5, r6, r7, r8, r9, r10⟩ := r
  refine reader (c_impl_WorldOk _) (by simp only [old]) ?_
  unfold p_impl_WorldOk
  (repeat' first|refine vs ?_|(refine br ?_ ?_<;>intro _<;>try(exfalso;first|omega|contradiction))|((with_reducible refine g_callf n_impl_valuesOk ?_);(refine aw_rcall_b (s_impl_valuesOk (x := x) ok hs ⟨_, _, _, _, _, _, _, _, _, _, _, _, _, _, _, _, _, _, _, _, _, _, rfl, rfl, slr_auto, slr_auto, slr_auto, slr_auto, slr_auto, slr_auto, slr_auto, slr_auto, slr_auto, slr_auto, slr_auto⟩) ?_ ?_ <;> intro hn <;> first | replace hn := bp_true hn | replace hn := bp_false hn))|((with_reducible refine g_callf n_impl_tasksOk ?_);(refine aw_rcall_b (s_impl_tasksOk (x := x) ok hs ⟨_, _, _, _, _, _, _, _, _, _, _, _, _, _, _, _, _, _, _, _, _, _, rfl, rfl, slr_auto, slr_auto, slr_auto, slr_auto, slr_auto, slr_auto, slr_auto, slr_auto, slr_auto, slr_auto, slr_auto⟩) ?_ ?_ <;> intro hn <;> first | replace hn := bp_true hn | replace hn := bp_false hn))|((with_reducible refine g_callf n_impl_stampsOk ?_);(refine aw_rcall_b (s_impl_stampsOk (x := x) hs ⟨_, _, _, _, _, _, _, _, _, _, _, _, _, _, _, _, _, _, _, _, _, _, rfl, rfl, slr_auto, slr_auto, slr_auto, slr_auto, slr_auto, slr_auto, slr_auto, slr_auto, slr_auto, slr_auto, slr_auto⟩) ?_ ?_ <;> intro hn <;> first | replace hn := bp_true hn | replace hn := bp_false hn))|((with_reducible refine g_idx ?_);((first|refine ix ?_|refine ixi ?_|(refine ixg ?_;intro _ _)|(refine ixgi ?_;intro _ _));first|rintro _ _ _ _ _ ⟨rfl,rfl⟩ _|rintro _ _ _ _ _ ⟨_,rfl,_⟩ _|rintro _ _ _ _ _ ⟨_,_,_,_,rfl,rfl,_,_⟩ _|intro _ _ _ _ _ _ _))|(refine sx ?_;intro _ _)|((with_reducible refine g_awp ?_);simp only [g0,g1,g2]))
  all_goals first
    | exact pt (world_iff.1 ⟨by assumption, by assumption, by assumption⟩)
    | exact pf fun k => by have k := world_iff.2 k; first | exact absurd k.1 (by assumption) | exact absurd k.2.1 (by assumption) | exact absurd k.2.2 (by assumption)
end Go.Proofs.YtekfdoknfcedpaaGreat
