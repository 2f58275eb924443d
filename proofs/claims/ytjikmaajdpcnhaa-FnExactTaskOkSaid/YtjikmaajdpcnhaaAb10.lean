/- Every operation is sound. -/
import Derived.Test.YtjikmaajdpcnhaaAb9
set_option linter.unusedSimpArgs false
set_option linter.unusedVariables false
namespace Go.Ab
open Go.RowKit

variable {B : Nat} {w0 w w' : World} {m : BM} {h : AH} {P : Program} {K : AV → AH → Prop}

theorem orel_map {ρ : Operand → AV} {a : Act} (hρ : ∀ x, VRel m (ρ x) (a.eval x)) (o : Option Operand) : ORelV m (o.map ρ) (o.map a.eval) := by
  cases o <;> simp [ORelV, hρ]

theorem arr1 {α : Type} {a : Array α} {x : α} (h : a.toList = [x]) : a = #[x] := Array.toList_inj.1 h
theorem arr2 {α : Type} {a : Array α} {x y : α} (h : a.toList = [x, y]) : a = #[x, y] := Array.toList_inj.1 h

theorem callv_sound {o : Oper} {a : Act} {ρ : Operand → AV} (hρ : ∀ x, VRel m (ρ x) (a.eval x)) (s : Sim B w0 m h w) (x : Operand) (args : Array Operand) (argTypes : Array TypeId) (hmap : args.map a.eval = (args.toList.map a.eval).toArray)
    (g : (AOp.callv (ρ x) (args.toList.map ρ)).go P h K) {next : Act → World → Prop} {Q : Exit → Act → World → Prop}
    (hnext : ∀ v av m' h' w', Grow h.n m h'.n m' → Sim B w0 m' h' w' → VRel m' av v → K av h' → next (a.put o.dst v) w') :
    o.upon P a next Q (Sem.run P (do let d ← resolve a.eval ⟨.value x, args, argTypes⟩ o.type; invoke d.target d.args) w) := by
  have hargs := vrels_mapR hρ args.toList
  simp only [AOp.go] at g
  split at g
  · rename_i fi caps hf
    have hfv := hρ x
    rw [hf] at hfv
    simp only [VRel] at hfv
    obtain ⟨l, hl, hv⟩ := hfv
    have : (do let d ← resolve a.eval ⟨.value x, args, argTypes⟩ o.type; invoke d.target d.args : Sem Next) = callFunc fi (args.toList.map a.eval ++ l).toArray := by
      simp only [resolve, hv, Deferred.ofValue, hmap]
      simp [invoke]
    rw [this]
    exact upon_call s (hargs.append hl) g hnext
  · exact g.elim

theorem map1 {α β : Type} (f : α → β) (x : α) : #[x].map f = #[f x] := by simp
theorem map2 {α β : Type} (f : α → β) (x y : α) : #[x, y].map f = #[f x, f y] := by simp

theorem call_sound {o : Oper} {a : Act} {ρ : Operand → AV} (hρ : ∀ x, VRel m (ρ x) (a.eval x)) (s : Sim B w0 m h w) {c : Call} (ho : o.op = .call c) (g : (trCall P ρ c).go P h K) {next : Act → World → Prop} {Q : Exit → Act → World → Prop}
    (hnext : ∀ v av m' h' w', Grow h.n m h'.n m' → Sim B w0 m' h' w' → VRel m' av v → K av h' → next (a.put o.dst v) w') : o.wp P a w next Q := by
  unfold Oper.wp execOp
  rw [ho]
  obtain ⟨callee, args, argTypes⟩ := c
  have hmap : args.map a.eval = (args.toList.map a.eval).toArray := by rw [← Array.toList_map]
  cases callee with
  | invoke r n => exact g.elim
  | value f =>
    have hargs := vrels_mapR hρ args.toList
    cases f with
    | func fi =>
      simp only [trCall, AOp.go] at g
      have : (do let d ← resolve a.eval ⟨.value (.func fi), args, argTypes⟩ o.type; invoke d.target d.args : Sem Next) = callFunc fi (args.toList.map a.eval).toArray := by
        rw [← hmap]; simp [resolve, Act.eval, Deferred.ofValue, invoke]
      show o.upon P a next Q (Sem.run P (do let d ← resolve a.eval ⟨.value (.func fi), args, argTypes⟩ o.type; invoke d.target d.args) w)
      rw [this]
      exact upon_call s hargs g hnext
    | tmp t => exact callv_sound hρ s (.tmp t) args argTypes hmap g hnext
    | const v => exact callv_sound hρ s (.const v) args argTypes hmap g hnext
    | global v => exact callv_sound hρ s (.global v) args argTypes hmap g hnext
  | builtin b =>
    have hb : ∀ (x : Sem Value), (builtin b argTypes o.type (args.map fun | .const _ => true | _ => false) (args.map a.eval)) = (do pure (.value (← x))) → Res h.n B w0 m K (x.run P w) →
        o.upon P a next Q (Sem.run P (do let d ← resolve a.eval ⟨.builtin b, args, argTypes⟩ o.type; invoke d.target d.args) w) := by
      intro x hx hr
      have : (do let d ← resolve a.eval ⟨.builtin b, args, argTypes⟩ o.type; invoke d.target d.args : Sem Next) = (do pure (.value (← x))) := by
        rw [← hx]; rfl
      rw [this]
      exact upon_res hr hnext
    simp only [trCall] at g
    split at g
    · -- len
      rename_i x t hx ht
      have ha := arr1 hx; have hat := arr1 ht
      subst ha; subst hat
      split at g
      · rename_i e hu
        exact hb _ rfl (by rw [map1]; exact snd_len s hu ⟨fun _ => ⟨e, rfl⟩, fun h => by cases h⟩ (hρ x) g)
      · rename_i hu
        exact hb _ rfl (by rw [map1]; exact snd_len s hu ⟨(fun h => by cases h), fun _ => rfl⟩ (hρ x) g)
      · exact g.elim
    · -- append
      rename_i x y t u hx ht
      have ha := arr2 hx; have hat := arr2 ht
      subst ha; subst hat
      split at g
      · rename_i e hu
        split at g
        · rename_i i z e' hi hz hu2
          split at g
          · exact g.elim
          · rename_i hby
            obtain ⟨i', v, hi', hv, _, _, _, hs⟩ := zeroC_some (m := m) hz
            rw [hi] at hi'; cases hi'
            exact hb _ rfl (by rw [map2]; exact snd_app s hu hi hv hs hby hu2 (.inl ⟨_, rfl⟩) (hρ x) (hρ y) g)
        · rename_i i z hi hz hu2
          split at g
          · exact g.elim
          · rename_i hby
            obtain ⟨i', v, hi', hv, _, _, _, hs⟩ := zeroC_some (m := m) hz
            rw [hi] at hi'; cases hi'
            exact hb _ rfl (by rw [map2]; exact snd_app s hu hi hv hs hby hu2 (.inr rfl) (hρ x) (hρ y) g)
        · exact g.elim
      · exact g.elim
    · -- clear
      rename_i x t hx ht
      have ha := arr1 hx; have hat := arr1 ht
      subst ha; subst hat
      split at g
      · rename_i e hu
        split at g
        · rename_i i z hi hz
          exact hb _ rfl (by rw [map1]; exact snd_clr s hu hi hz (hρ x) g)
        · exact g.elim
      · exact g.elim
    · -- min
      have := snd_mnx s (vrels_mapR hρ args.toList) argTypes o.type g
      rw [← hmap] at this; exact hb _ rfl this
    · have := snd_mnx s (vrels_mapR hρ args.toList) argTypes o.type g
      rw [← hmap] at this; exact hb _ rfl this
    · exact g.elim

theorem op_sound {o : Oper} {a : Act} {ρ : Operand → AV} (hρ : ∀ x, VRel m (ρ x) (a.eval x)) (s : Sim B w0 m h w) (g : (trOp P ρ o.op).go P h K) {next : Act → World → Prop} {Q : Exit → Act → World → Prop}
    (hnext : ∀ v av m' h' w', Grow h.n m h'.n m' → Sim B w0 m' h' w' → VRel m' av v → K av h' → next (a.put o.dst v) w') : o.wp P a w next Q := by
  cases hop : o.op with
  | call c => rw [hop] at g; exact call_sound hρ s hop g hnext
  | move x => rw [hop] at g; unfold Oper.wp execOp; rw [hop]; exact hnext _ _ m h w (Grow.refl _ _) s (hρ _) g
  | assign x => rw [hop] at g; unfold Oper.wp execOp; rw [hop]; exact hnext _ _ m h w (Grow.refl _ _) s (hρ _) g
  | pick c x y =>
    rw [hop] at g; unfold Oper.wp execOp; rw [hop]
    simp only [trOp, AOp.go] at g
    split at g
    · rename_i b hb
      have hc := hρ c
      rw [hb] at hc
      simp only [VRel] at hc
      simp only [hc, asBool, Sem.run_bind, Sem.run_pure, Result.andThen_ok]
      refine hnext _ _ m h w (Grow.refl _ _) s ?_ g
      cases b
      · exact hρ y
      · exact hρ x
    · exact g.elim
  | alloc t =>
    rw [hop] at g; unfold Oper.wp execOp; rw [hop]
    simp only [trOp] at g
    split at g
    · rename_i cs hz; exact upon_res (snd_alloc s hz g) hnext
    · exact g.elim
  | box t x =>
    rw [hop] at g; unfold Oper.wp execOp; rw [hop]
    exact upon_res (snd_box s (hρ x) g) hnext
  | build t parts =>
    rw [hop] at g; unfold Oper.wp execOp; rw [hop]
    simp only [trOp] at g
    split at g
    · rename_i fs hu
      split at g
      · rename_i z pls hz hp
        split at g
        · rename_i ap hap; exact upon_res (snd_build s hu hz hp hρ hap g) hnext
        · exact g.elim
      · exact g.elim
    · exact g.elim
  | buildSlice t n parts =>
    rw [hop] at g; unfold Oper.wp execOp; rw [hop]
    simp only [trOp] at g
    split at g
    · rename_i e hu
      split at g
      · rename_i i z hi hz
        split at g
        · rename_i ap hap; exact upon_res (snd_bslice s hu hi hz hρ hap g) hnext
        · exact g.elim
      · exact g.elim
    · exact g.elim
  | load t x =>
    rw [hop] at g; unfold Oper.wp execOp; rw [hop]
    simp only [trOp] at g
    split at g
    · rename_i fs i hu hi; exact upon_res (snd_ldn s hu hi (hρ x) g) hnext
    · rename_i d i hnn hu hi
      split at g
      · rename_i hd; exact upon_res (snd_ld1 s hu hd (hρ x) g) hnext
      · exact g.elim
    · exact g.elim
  | store t x y =>
    rw [hop] at g; unfold Oper.wp execOp; rw [hop]
    simp only [trOp] at g
    split at g
    · rename_i i hi
      obtain ⟨w', h', e, hg, s', k⟩ := snd_st s hi (hρ x) (hρ y) g
      have : (do Instr.storeAt t (a.eval x) (a.eval y); pure .skip : Sem Next).run P w = .ok .skip w' := by simp [e]
      show o.upon P a next Q (Sem.run P (do Instr.storeAt t (a.eval x) (a.eval y); pure .skip) w)
      rw [this]
      exact hnext _ (.tup []) m h' w' hg s' (by simp only [VRel]; exact ⟨[], VRels.nil, rfl⟩) k
    · exact g.elim
  | fieldAddr t x f =>
    rw [hop] at g; unfold Oper.wp execOp; rw [hop]
    simp only [trOp] at g
    split at g
    · rename_i fs hu
      split at g
      · rename_i fd hf
        split at g
        · rename_i i hi
          split at g
          · exact g.elim
          · rename_i hs; exact upon_res (snd_fad s hu hf hi hs (hρ x) g) hnext
        · exact g.elim
      · exact g.elim
    · exact g.elim
  | field t x f =>
    rw [hop] at g; unfold Oper.wp execOp; rw [hop]
    simp only [trOp] at g
    split at g
    · rename_i fs hu
      split at g
      · rename_i fd hf
        split at g
        · rename_i fs' i hd hi; exact upon_res (snd_fldn s hu hf hd hi (hρ x) g) hnext
        · rename_i d i hnn hd hi
          split at g
          · rename_i hp; exact upon_res (snd_fld1 s hu hf hd hp (hρ x) g) hnext
          · exact g.elim
        · exact g.elim
      · exact g.elim
    · exact g.elim
  | indexAddr t x y =>
    rw [hop] at g; unfold Oper.wp execOp; rw [hop]
    simp only [trOp] at g
    split at g
    · rename_i e hu
      split at g
      · rename_i i hi; exact upon_res (snd_idx s hu hi (hρ x) (hρ y) g) hnext
      · exact g.elim
    · exact g.elim
  | index t x y =>
    rw [hop] at g; unfold Oper.wp execOp; rw [hop]
    simp only [trOp] at g
    split at g
    · rename_i hu; exact upon_res (snd_sidx s hu (hρ x) (hρ y) g) hnext
    · exact g.elim
  | binOp op t x y yt =>
    rw [hop] at g; unfold Oper.wp execOp; rw [hop]
    simp only [trOp] at g
    have plain : ∀ {d : TypeDesc} {ty : Nat}, P.underlying t = some d → (ty = 2 → d = .bool) → (AOp.bin ty op (ρ x) (ρ y)).go P h K → Res h.n B w0 m K ((do eqGuard op t x y (a.eval x) (a.eval y); binOp op t (a.eval x) (a.eval y) : Sem Value).run P w) := by
      intro d ty hu hd g
      have r := snd_bin s hu hd (hρ x) (hρ y) g
      have hx : (∃ k n, a.eval x = .int k n) ∨ (∃ b, a.eval x = .bool b) ∨ ∃ st, a.eval x = .string st := by
        have hvx := hρ x
        simp only [AOp.go] at g
        cases hρx : ρ x <;> rw [hρx] at g hvx <;> simp only [VRel] at hvx
        case int k n => exact .inl ⟨k, n, hvx⟩
        case bool b => exact .inr (.inl ⟨b, hvx⟩)
        case str st => exact .inr (.inr ⟨st, hvx⟩)
        all_goals (split at g <;> first | exact g.elim | (rename_i hok; unfold binOk at hok; split at hok <;> simp_all))
      rw [Sem.run_bind, eqGuard_plain hx]
      exact r
    split at g
    · rename_i k hu; exact upon_res (plain hu (fun h => by cases h) g) hnext
    · rename_i hu; exact upon_res (plain hu (fun h => by cases h) g) hnext
    · rename_i hu; exact upon_res (plain hu (fun _ => rfl) g) hnext
    · rename_i fs hu
      split at g
      · rename_i tys hf; exact upon_res (snd_eqs s hu hf (hρ x) (hρ y) x y (neg := false) g) hnext
      · rename_i tys hf; exact upon_res (snd_eqs s hu hf (hρ x) (hρ y) x y (neg := true) g) hnext
      · exact g.elim
    · exact g.elim
  | unOp op t x =>
    rw [hop] at g; unfold Oper.wp execOp; rw [hop]
    exact upon_res (snd_una s (hρ x) g) hnext
  | convert t d x =>
    rw [hop] at g; unfold Oper.wp execOp; rw [hop]
    simp only [trOp] at g
    split at g
    · rename_i k k' hs hd; exact upon_res (snd_conv s hs hd (hρ x) g) hnext
    · rename_i e hs hd
      split at g
      · rename_i he; exact upon_res (snd_bstr s hs he hd (hρ x) g) hnext
      · exact g.elim
    · exact g.elim
  | makeFunc fn first caps =>
    rw [hop] at g; unfold Oper.wp execOp; rw [hop]
    cases fn with
    | func f =>
      simp only [trOp] at g
      split at g
      · rename_i hf
        have hf' : first = #[] := Array.toList_inj.1 (List.length_eq_zero_iff.1 hf)
        subst hf'
        have hl := vrels_mapR hρ caps.toList
        refine upon_res (x := Instr.makeFunc (.func f) (Array.map a.eval #[]) (Array.map a.eval caps)) ?_ hnext
        refine Res.of_run s ⟨_, rfl, ?_⟩ g
        simp only [VRel]
        exact ⟨_, hl, by rw [← Array.toList_map, show Array.map a.eval #[] = #[] by simp]⟩
      · exact g.elim
    | _ => exact g.elim
  | makeSlice t l c =>
    rw [hop] at g; unfold Oper.wp execOp; rw [hop]
    simp only [trOp] at g
    split at g
    · rename_i e hu
      split at g
      · rename_i i z hi hz
        split at g
        · exact g.elim
        · rename_i hb; exact upon_res (snd_mksl s hu hi hz hb (hρ l) (hρ c) g) hnext
      · exact g.elim
    · exact g.elim
  | slice t x lo hi mx =>
    rw [hop] at g; unfold Oper.wp execOp; rw [hop]
    cases mx with
    | some v =>
      simp only [trOp] at g
      split at g
      · rename_i e hu
        split at g
        · rename_i i hi'; exact upon_res (snd_slc3 s hu hi' (hρ x) (orel_map hρ lo) (orel_map hρ hi) (hρ v) g) hnext
        · exact g.elim
      · exact g.elim
    | none =>
      simp only [trOp] at g
      split at g
      · rename_i e hu
        split at g
        · rename_i i hi'; exact upon_res (snd_slc s hu hi' (hρ x) (orel_map hρ lo) (orel_map hρ hi) g) hnext
        · exact g.elim
      · rename_i hu; exact upon_res (snd_sslc s hu (hρ x) (orel_map hρ lo) (orel_map hρ hi) g) hnext
      · exact g.elim
  | nilCheck x =>
    rw [hop] at g; unfold Oper.wp execOp; rw [hop]
    simp only [trOp, AOp.go] at g
    split at g
    · rename_i b off hb
      have hx := hρ x
      rw [hb] at hx
      have hx' := hx
      simp only [VRel] at hx
      obtain ⟨p, hp, hv⟩ := hx
      simp only [hv]
      rw [hv] at hx'
      exact hnext _ _ m h w (Grow.refl _ _) s hx' g
    · exact g.elim
  | extract x i =>
    rw [hop] at g; unfold Oper.wp execOp; rw [hop]
    exact upon_res (snd_ext s (hρ x) g) hnext
  | _ => rw [hop] at g; exact g.elim

end Go.Ab
