/- The abstract image of every operation, and that it is sound. -/
import Derived.Test.YtjikmaajdpcnhaaAb7
set_option linter.unusedSimpArgs false
set_option linter.unusedVariables false
namespace Go.Ab
open Go.RowKit

variable {B : Nat} {w0 w w' : World} {m : BM} {h : AH} {P : Program} {K : AV → AH → Prop}

/-- A struct of scalars, a cell a field: its '==' compares pair by pair. -/
def eqTy (P : Program) (t : TypeId) : Option Nat :=
  match P.underlying t with
  | some (.int _) => some 0
  | some .string => some 1
  | some .bool => some 2
  | _ => none
def flatFields (P : Program) : Nat → List Field → Option (List Nat)
  | _, [] => some []
  | n, f :: fs => match eqTy P f.type, flatFields P (n + 1) fs with
    | some t, some ts => if f.offset = n ∧ f.name ≠ "_" then some (t :: ts) else none
    | _, _ => none
def flatStruct (P : Program) (t : TypeId) (fs : Array Field) : Option (List Nat) :=
  if P.stoodInHeld t = false ∧ P.eqGuardType P.depth t = false then flatFields P 0 fs.toList else none

theorem eqTy_inv {t : TypeId} {ty : Nat} (hu : eqTy P t = some ty) : (ty = 0 ∧ ∃ k, P.underlying t = some (.int k)) ∨ (ty = 1 ∧ P.underlying t = some .string) ∨ (ty = 2 ∧ P.underlying t = some .bool) := by
  unfold eqTy at hu
  split at hu
  · rename_i k hk; cases hu; exact .inl ⟨rfl, k, hk⟩
  · rename_i hk; cases hu; exact .inr (.inl ⟨rfl, hk⟩)
  · rename_i hk; cases hu; exact .inr (.inr ⟨rfl, hk⟩)
  · cases hu

theorem run_eq1 {d : Nat} {t : TypeId} {ty : Nat} (hu : eqTy P t = some ty) {x y : AV} {b : Bool} {vx vy : Value} (rx : VRel m x vx) (ry : VRel m y vy) (hk : binOk ty x y = true) (hb : abin .eql x y = some (.bool b)) :
    (Op.equalIn (d + 1) t vx vy).run P w = .ok b w := by
  have hu0 := eqTy_inv hu; clear hu
  rcases hu0 with ⟨rfl, k, hu⟩ | ⟨rfl, hu⟩ | ⟨rfl, hu⟩
  · cases x <;> simp only [binOk, Bool.false_eq_true] at hk
    cases y <;> simp only [binOk, Bool.false_eq_true] at hk
    simp only [abin] at hb
    split at hb
    · rename_i e; subst e
      simp only [Option.some.injEq, AV.bool.injEq] at hb
      simp only [VRel] at rx ry; subst rx; subst ry; subst hb
      simp [Op.equalIn, run_underlying hu, int_beq]
    · cases hb
  · cases x <;> simp only [binOk, Bool.false_eq_true] at hk
    cases y <;> simp only [binOk, Bool.false_eq_true] at hk
    simp only [abin, Option.some.injEq, AV.bool.injEq] at hb
    simp only [VRel] at rx ry; subst rx; subst ry; subst hb
    simp [Op.equalIn, run_underlying hu, str_beq']
  · cases x <;> simp only [binOk, Bool.false_eq_true] at hk
    cases y <;> simp only [binOk, Bool.false_eq_true] at hk
    simp only [abin, Option.some.injEq, AV.bool.injEq] at hb
    simp only [VRel] at rx ry; subst rx; subst ry; subst hb
    simp [Op.equalIn, run_underlying hu]

theorem eqTy_plain {t : TypeId} {ty : Nat} (hu : eqTy P t = some ty) : ∃ d, P.underlying t = some d ∧ plainD d = true := by
  have hu0 := eqTy_inv hu; clear hu
  rcases hu0 with ⟨rfl, k, hu⟩ | ⟨rfl, hu⟩ | ⟨rfl, hu⟩ <;> exact ⟨_, hu, rfl⟩

theorem run_eqfields (d : Nat) (l k : List Value) : ∀ (fs : List Field) (n : Nat) (tys : List Nat) (xs ys : List AV) (b : Bool), flatFields P n fs = some tys → aeqs tys xs ys = some b → VRels m xs (l.drop n) → VRels m ys (k.drop n) →
    (forIn (m := Sem) fs ((none : Option Bool), ()) fun f __s =>
      if f.name ≠ "_" then do
        let a ← part f.type l.toArray f.offset
        let b ← part f.type k.toArray f.offset
        let c ← Op.equalIn (d + 1) f.type a b
        if (!c) = true then pure (ForInStep.done (some false, ())) else pure (ForInStep.yield (none, ()))
      else pure (ForInStep.yield (none, ()))).run P w = .ok (if b then (none, ()) else (some false, ())) w
  | [], n, tys, xs, ys, b, h1, h2, rx, ry => by
    simp only [flatFields, Option.some.injEq] at h1; subst h1
    cases xs <;> cases ys <;> simp [aeqs] at h2
    subst h2
    simp
  | f :: fs, n, tys, xs, ys, b, h1, h2, rx, ry => by
    simp only [flatFields] at h1
    split at h1
    · rename_i t ts ht hts
      split at h1
      · rename_i hc
        obtain ⟨ho, hn⟩ := hc
        cases h1
        cases xs with
        | nil => cases ys <;> simp [aeqs] at h2
        | cons x xs =>
          cases ys with
          | nil => simp [aeqs] at h2
          | cons y ys =>
            simp only [aeqs] at h2
            split at h2
            · rename_i b1 hk hb
              split at h2
              · rename_i c hc
                simp only [Option.some.injEq] at h2
                obtain ⟨vx, vxs, e1, r1, rs1⟩ := rx.cons_inv
                obtain ⟨vy, vys, e2, r2, rs2⟩ := ry.cons_inv
                obtain ⟨dd, hd1, hd2⟩ := eqTy_plain ht
                have g1 : l[n]? = some vx := by have := congrArg (·[0]?) e1; simpa using this
                have g2 : k[n]? = some vy := by have := congrArg (·[0]?) e2; simpa using this
                have p1 : (part f.type l.toArray f.offset).run P w = .ok vx w := by simp [part, run_agg0 hd1 hd2, ho, g1]
                have p2 : (part f.type k.toArray f.offset).run P w = .ok vy w := by simp [part, run_agg0 hd1 hd2, ho, g2]
                have p3 := run_eq1 (P := P) (w := w) (d := d) ht r1 r2 hk hb
                rw [List.forIn_cons, if_pos hn]
                simp only [Sem.run_bind, p1, p2, p3, Result.andThen_ok]
                cases b1 with
                | false =>
                  subst h2
                  simp
                | true =>
                  simp only [Bool.not_true, Bool.false_eq_true, if_false, Sem.run_pure, Result.andThen_ok]
                  have := run_eqfields d l k fs (n + 1) ts xs ys c hts hc (by
                    have : l.drop (n + 1) = vxs := by rw [← List.drop_drop, e1]; rfl
                    rw [this]; exact rs1) (by
                    have : k.drop (n + 1) = vys := by rw [← List.drop_drop, e2]; rfl
                    rw [this]; exact rs2)
                  rw [this]
                  subst h2
                  simp
              · cases h2
            · cases h2
      · cases h1
    · cases h1

theorem run_eqs {t : TypeId} {fs : Array Field} {tys : List Nat} (hu : P.underlying t = some (.struct fs)) (hf : flatStruct P t fs = some tys) {xs ys : List AV} {l k : List Value} (rx : VRels m xs l) (ry : VRels m ys k) {b : Bool} (hb : aeqs tys xs ys = some b) (d : Nat) :
    (Op.equalIn (d + 2) t (.agg l.toArray) (.agg k.toArray)).run P w = .ok b w := by
  unfold flatStruct at hf
  split at hf
  · rename_i hc
    obtain ⟨h2, h3⟩ := hc
    rw [Op.equalIn]
    simp only [Sem.run_bind, run_underlying hu, Result.andThen_ok, run_program, h2, if_false, Bool.false_eq_true]
    rw [← Array.forIn_toList]
    rw [run_eqfields d l k fs.toList 0 tys xs ys b hf hb (by simpa using rx) (by simpa using ry)]
    cases b <;> simp
  · cases hf

theorem snd_eqs (s : Sim B w0 m h w) {t : TypeId} {fs : Array Field} {tys : List Nat} (hu : P.underlying t = some (.struct fs)) (hf : flatStruct P t fs = some tys) {neg : Bool} {x y : AV} {vx vy : Value} (rx : VRel m x vx) (ry : VRel m y vy) (ox oy : Operand) (g : (AOp.eqs tys neg x y).go P h K) :
    Res h.n B w0 m K ((do eqGuard (if neg then .neq else .eql) t ox oy vx vy; binOp (if neg then .neq else .eql) t vx vy : Sem Value).run P w) := by
  simp only [AOp.go] at g
  split at g
  · split at g
    · rename_i b hb
      simp only [VRel] at rx ry
      obtain ⟨l, hl, _, rfl⟩ := rx
      obtain ⟨k, hk, _, rfl⟩ := ry
      have he : (Op.equal t (.agg l.toArray) (.agg k.toArray)).run P w = .ok b w := run_eqs hu hf hl hk hb 9998
      have hg : P.eqGuardType P.depth t = false := by
        unfold flatStruct at hf
        split at hf
        · rename_i hc; exact hc.2
        · cases hf
      refine Res.of_run s ?_ g
      cases neg
      · exact ⟨.bool b, by simp [eqGuard, hg, binOp, he], vrel_bool⟩
      · exact ⟨.bool (!b), by simp [eqGuard, hg, binOp, he], vrel_bool⟩
    · exact g.elim
  · exact g.elim

theorem eqGuard_plain {op : BinOp} {t : TypeId} {ox oy : Operand} {vx vy : Value} (hx : (∃ k n, vx = .int k n) ∨ (∃ b, vx = .bool b) ∨ ∃ st, vx = .string st) : (eqGuard op t ox oy vx vy).run P w = .ok () w := by
  unfold eqGuard
  rcases hx with ⟨k, n, rfl⟩ | ⟨b, rfl⟩ | ⟨st, rfl⟩ <;> cases op <;> simp

end Go.Ab
