/- The abstract image of every operation, and that it is sound. -/
import Derived.Test.YtjikmaajdpcnhaaAb8
set_option linter.unusedSimpArgs false
set_option linter.unusedVariables false
namespace Go.Ab
open Go.RowKit

variable {B : Nat} {w0 w w' : World} {m : BM} {h : AH} {P : Program} {K : AV → AH → Prop}

def trCall (P : Program) (ρ : Operand → AV) (c : Call) : AOp :=
  match c.callee with
  | .value (.func f) => .call f (c.args.toList.map ρ)
  | .value x => .callv (ρ x) (c.args.toList.map ρ)
  | .invoke .. => .bad
  | .builtin b =>
    match b, c.args.toList, c.argTypes.toList with
    | .len, [x], [t] => match P.underlying t with
      | some (.slice _) => .len 0 (ρ x)
      | some .string => .len 1 (ρ x)
      | _ => .bad
    | .append, [x, y], [t, u] => match P.underlying t with
      | some (.slice e) => match P.info? e, zeroC P e, P.underlying u with
        | some i, some _, some (.slice _) => if i.bytes = 0 then .bad else .app i.size i.bytes (ρ x) (ρ y)
        | some i, some _, some .string => if i.bytes = 0 then .bad else .app i.size i.bytes (ρ x) (ρ y)
        | _, _, _ => .bad
      | _ => .bad
    | .clear, [x], [t] => match P.underlying t with
      | some (.slice e) => match P.info? e, zeroC P e with
        | some i, some z => .clr i.size z (ρ x)
        | _, _ => .bad
      | _ => .bad
    | .min, xs, _ => .mnx true (xs.map ρ)
    | .max, xs, _ => .mnx false (xs.map ρ)
    | _, _, _ => .bad

def trOp (P : Program) (ρ : Operand → AV) (o : Op) : AOp :=
  match o with
  | .move x | .assign x => .mv (ρ x)
  | .pick c a b => .pick (ρ c) (ρ a) (ρ b)
  | .alloc t => match zeroC P t with
    | some cs => .alloc cs
    | none => .bad
  | .box _ x => .box (ρ x)
  | .build t parts => match P.underlying t with
    | some (.struct fs) => match zeroC P t, fs.toList.mapM (fun f => (P.info? f.type).map fun i => (f.offset, i.size)) with
      | some z, some pls => match partsAt (pls.toArray[·]?) ρ parts.toList with
        | some ap => .build z ap
        | none => .bad
      | _, _ => .bad
    | _ => .bad
  | .buildSlice t n parts => match P.underlying t with
    | some (.slice e) => match P.info? e, zeroC P e with
      | some i, some z => match partsAt (fun j => some (j * i.size, i.size)) ρ parts.toList with
        | some ap => .bslice i.size n (List.replicate n z).flatten ap
        | none => .bad
      | _, _ => .bad
    | _ => .bad
  | .load t x => match P.underlying t, P.info? t with
    | some (.struct _), some i => .ldn i.size (ρ x)
    | some d, some _ => if plainD d then .ld1 (ρ x) else .bad
    | _, _ => .bad
  | .store t x y => match P.info? t with
    | some i => .st i.size (ρ x) (ρ y)
    | none => .bad
  | .fieldAddr s x f => match P.underlying s with
    | some (.struct fs) => match fs[f]? with
      | some fd => match P.info? fd.type with
        | some i => if i.size = 0 then .bad else .fad fd.offset (ρ x)
        | none => .bad
      | none => .bad
    | _ => .bad
  | .field s x f => match P.underlying s with
    | some (.struct fs) => match fs[f]? with
      | some fd => match P.underlying fd.type, P.info? fd.type with
        | some (.struct _), some i => .fldn fd.offset i.size (ρ x)
        | some d, some _ => if plainD d then .fld1 fd.offset (ρ x) else .bad
        | _, _ => .bad
      | none => .bad
    | _ => .bad
  | .indexAddr t x i => match P.underlying t with
    | some (.slice e) => match P.info? e with
      | some inf => .idx inf.size (ρ x) (ρ i)
      | none => .bad
    | _ => .bad
  | .index t x i => match P.underlying t with
    | some .string => .sidx (ρ x) (ρ i)
    | _ => .bad
  | .binOp op t x y _ => match P.underlying t with
    | some (.int _) => .bin 0 op (ρ x) (ρ y)
    | some .string => .bin 1 op (ρ x) (ρ y)
    | some .bool => .bin 2 op (ρ x) (ρ y)
    | some (.struct fs) => match flatStruct P t fs, op with
      | some tys, .eql => .eqs tys false (ρ x) (ρ y)
      | some tys, .neq => .eqs tys true (ρ x) (ρ y)
      | _, _ => .bad
    | _ => .bad
  | .unOp op _ x => .una op (ρ x)
  | .convert s d x => match P.underlying s, P.underlying d with
    | some (.int _), some (.int k) => .conv k (ρ x)
    | some (.slice e), some .string => match P.underlying e with
      | some (.int .u8) => .bstr (ρ x)
      | _ => .bad
    | _, _ => .bad
  | .makeFunc (.func f) first caps => if first.toList.length = 0 then .mkfn f (caps.toList.map ρ) else .bad
  | .makeSlice t l c => match P.underlying t with
    | some (.slice e) => match P.info? e, zeroC P e with
      | some i, some z => if i.bytes = 0 then .bad else .mksl i.size i.bytes z (ρ l) (ρ c)
      | _, _ => .bad
    | _ => .bad
  | .slice t x lo hi none => match P.underlying t with
    | some (.slice e) => match P.info? e with
      | some i => .slc i.size (ρ x) (lo.map ρ) (hi.map ρ) none
      | none => .bad
    | some .string => .sslc (ρ x) (lo.map ρ) (hi.map ρ)
    | _ => .bad
  | .slice t x lo hi (some mx) => match P.underlying t with
    | some (.slice e) => match P.info? e with
      | some _ => .slc3 (ρ x) (lo.map ρ) (hi.map ρ) (ρ mx)
      | none => .bad
    | _ => .bad
  | .nilCheck x => .nilck (ρ x)
  | .extract x i => .ext (ρ x) i
  | .call c => trCall P ρ c
  | _ => .bad

theorem upon_res {o : Oper} {a : Act} {next : Act → World → Prop} {Q : Exit → Act → World → Prop} {x : Sem Value}
    (r : Res h.n B w0 m K (x.run P w)) (hnext : ∀ v av m' h' w', Grow h.n m h'.n m' → Sim B w0 m' h' w' → VRel m' av v → K av h' → next (a.put o.dst v) w') :
    o.upon P a next Q ((do pure (.value (← x)) : Sem Next).run P w) := by
  obtain ⟨v, w', av, m', h', e, h1, h2, h3, h4⟩ := r
  have : (do pure (.value (← x)) : Sem Next).run P w = .ok (.value v) w' := by simp [e]
  rw [this]
  exact hnext v av m' h' w' h1 h2 h3 h4

theorem vrels_mapR {ρ : Operand → AV} {a : Act} (hρ : ∀ x, VRel m (ρ x) (a.eval x)) : ∀ (l : List Operand), VRels m (l.map ρ) (l.map a.eval)
  | [] => VRels.nil
  | x :: l => VRels.cons (hρ x) (vrels_mapR hρ l)

theorem upon_call {o : Oper} {a : Act} {next : Act → World → Prop} {Q : Exit → Act → World → Prop} (s : Sim B w0 m h w) {f : FuncId} {args : List AV} {l : List Value} (hl : VRels m args l) (g : ACalls P f args h K)
    (hnext : ∀ v av m' h' w', Grow h.n m h'.n m' → Sim B w0 m' h' w' → VRel m' av v → K av h' → next (a.put o.dst v) w') :
    o.upon P a next Q ((callFunc f l.toArray).run P w) := by
  obtain ⟨⟨fn, h1, h2, h3⟩, hc⟩ := g
  have : (callFunc f l.toArray).run P w = .ok (.enter f l.toArray) w := by
    simp only [callFunc, Sem.run_bind, run_program, Result.andThen_ok, h1, h2, h3, Bool.false_eq_true, if_false]
    rfl
  rw [this, Oper.upon_enter]
  refine (hc B w0 m w l s hl).mono ?_
  rintro e w' ⟨v, av, m', h', rfl, g1, g2, g3, g4⟩
  exact hnext v av m' h' w' g1 g2 g3 g4

theorem amnxGo_run (mn : Bool) (f : Value → Value → Sem Value) (hf : ∀ x y, f (.int .i64 x) (.int .i64 y) = pure (.int .i64 (if mn then (if y < x then y else x) else (if x < y then y else x)))) :
    ∀ (xs : List AV) (l : List Value) (a n : Int), VRels m xs l → amnxGo mn a xs = some n → (l.foldlM f (.int .i64 a)).run P w = .ok (.int .i64 n) w
  | [], l, a, n, r, g => by
    simp only [VRels] at r; subst r
    simp only [amnxGo, Option.some.injEq] at g; subst g
    rfl
  | x :: xs, l, a, n, r, g => by
    obtain ⟨v, vs, rfl, r1, r2⟩ := r.cons_inv
    cases x <;> (try simp only [amnxGo, reduceCtorEq] at g)
    rename_i k b
    cases k <;> (try simp only [amnxGo, reduceCtorEq] at g)
    simp only [VRel] at r1; subst r1
    rw [List.foldlM_cons, hf]
    simp only [pure_bind]
    exact amnxGo_run mn f hf xs vs _ n r2 g

theorem snd_mnx (s : Sim B w0 m h w) {mn : Bool} {xs : List AV} {l : List Value} (r : VRels m xs l) (at1 : Array TypeId) (tt : TypeId) (g : (AOp.mnx mn xs).go P h K) :
    Res h.n B w0 m K (((if mn then Builtin.min_ else Builtin.max_) at1 tt l.toArray).run P w) := by
  simp only [AOp.go] at g
  split at g
  · rename_i n hn
    cases xs with
    | nil => simp [amnx] at hn
    | cons x xs =>
      obtain ⟨v, vs, rfl, r1, r2⟩ := r.cons_inv
      cases x <;> (try simp only [amnx, reduceCtorEq] at hn)
      rename_i k b
      cases k <;> (try simp only [amnx, reduceCtorEq] at hn)
      simp only [VRel] at r1; subst r1
      refine Res.of_run s ⟨.int .i64 n, ?_, vrel_int⟩ g
      cases mn
      · simp only [Bool.false_eq_true, if_false, Builtin.max_]
        exact amnxGo_run false Builtin.max2 (fun x y => by simp [Builtin.max2]) xs vs b n r2 hn
      · simp only [if_true, Builtin.min_]
        exact amnxGo_run true Builtin.min2 (fun x y => by simp [Builtin.min2]) xs vs b n r2 hn
  · exact g.elim

theorem snd_clr (s : Sim B w0 m h w) {t e tt : TypeId} {i : TypeInfo} {zs : List AV} (hu : P.underlying t = some (.slice e)) (hi : P.info? e = some i) (hz : zeroC P e = some zs) {x : AV} {vx : Value} (rx : VRel m x vx) (g : (AOp.clr i.size zs x).go P h K) :
    Res h.n B w0 m K ((Builtin.clear_ #[t] tt #[vx]).run P w) := by
  simp only [AOp.go] at g
  have htup : VRel m (.tup []) (.tuple #[]) := by simp only [VRel]; exact ⟨[], VRels.nil, rfl⟩
  split at g
  · simp only [VRel] at rx; subst rx
    exact Res.of_run s ⟨.tuple #[], by simp [Builtin.clear_, run_underlying hu], htup⟩ g
  · rename_i b off ln
    obtain ⟨hm, hzl, hn, k⟩ := g
    simp only [VRel] at rx
    obtain ⟨p, a, rcap, hp, rfl, hle, hR, ha⟩ := rx
    by_cases h0 : ln = 0
    · subst h0
      have hup : h.upd b { h.get b with cells := splice (h.get b).cells off (List.replicate 0 zs).flatten } = h := by
        unfold AH.upd
        congr 1
        funext j
        split
        · rename_i ej; subst ej; simp [splice]
        · rfl
      rw [hup] at k
      exact Res.of_run s ⟨.tuple #[], by simp [Builtin.clear_, run_underlying hu], htup⟩ k
    · have ha' : a = ⟨p.rb, p.ro + off, none⟩ := by
        rcases ha with ha | ha
        · omega
        · exact ha
      subst ha'
      obtain ⟨i', z, hi', hz', hr, h1, hl, hs⟩ := zeroC_some hz
      rw [hi] at hi'; cases hi'
      have hfl := zero_flat (m := m) hr ln
      have hlen : ((List.replicate ln zs).flatten).length = ln * i.size := by simp [hl]
      obtain ⟨w', q1, q2⟩ := s.put (P := P) hp hm (off := off) hfl (by
        intro x hx
        obtain ⟨l, hl1, hl2⟩ := List.mem_flatten.1 hx
        rw [List.eq_of_mem_replicate hl1] at hl2
        exact h1 x hl2) (by rw [hlen]; exact hn)
      have hzc : (Builtin.zeroCells z.cells ln).toList = (List.replicate ln z.cells.toList).flatten := by
        have : Builtin.zeroCells z.cells ln = madeCells z.cells (ln * i.size) := by simp [Builtin.zeroCells, madeCells, hs]
        rw [this]
        apply List.ext_getElem?
        intro j
        by_cases hj : j < ln * i.size
        · have hlt : j < ((List.replicate ln z.cells.toList).flatten).length := by simp [hs]; exact hj
          rw [List.getElem?_eq_getElem hlt, Array.getElem?_toList]
          exact made_get z.cells ln i.size hs j _ (List.getElem?_eq_getElem hlt)
        · rw [List.getElem?_eq_none (by simp [size_madeCells]; omega), List.getElem?_eq_none (by simp [hs]; omega)]
      refine ⟨.tuple #[], w', .tup [], m, _, ?_, ?_, q2, htup, k⟩
      rotate_left
      · exact Grow.refl _ _
      obtain ⟨ln', rfl⟩ : ∃ q, ln = q + 1 := ⟨ln - 1, by omega⟩
      simp [Builtin.clear_, run_underlying hu, run_zero hi hz', hzc, q1]
  · exact g.elim

end Go.Ab
