/- The abstract image of an operation is sound: numbers, texts. -/
import Derived.Test.YtjikmaajdpcnhaaAb4
import Derived.Laws.Strings
set_option linter.unusedSimpArgs false
set_option linter.unusedVariables false
namespace Go.Ab
open Go.RowKit

variable {B : Nat} {w0 w w' : World} {m : BM} {h : AH} {P : Program} {K : AV → AH → Prop}

theorem int_beq (a b : Int) : (a == b) = decide (a = b) := by by_cases e : a = b <;> simp [e]
theorem str_tl (a : ByteArray) : a.toList = a.data.toList := ByteArray.toList_eq a
theorem str_beq (a b : ByteArray) : (a.toList == b.toList) = decide (a = b) := by
  rw [str_tl, str_tl]
  by_cases e : a = b
  · subst e; simp
  · have : ¬ a.data.toList = b.data.toList := fun h => e (ByteArray.ext (Array.toList_inj.1 h))
    rw [beq_eq_false_iff_ne.2 this]; simp [e]
theorem str_beq' (a b : ByteArray) : (a == b) = decide (a = b) := by
  cases a with | mk x => cases b with | mk y =>
  show (x == y) = _
  by_cases e : x = y <;> simp [e]
theorem equalIn_bool {t : TypeId} (hu : P.underlying t = some .bool) (d : Nat) (a b : Bool) : (Op.equalIn (d + 1) t (.bool a) (.bool b)).run P w = .ok (a == b) w := by
  simp [Op.equalIn, run_underlying hu]

theorem run_bin_int {op : BinOp} {t : TypeId} {k k' : IntKind} {a b : Int} {v : AV} (hv : abin op (.int k a) (.int k' b) = some v) :
    ∃ u, (binOp op t (.int k a) (.int k' b)).run P w = .ok u w ∧ VRel m v u := by
  simp only [abin] at hv
  cases op
  case shl =>
    simp only at hv
    split at hv
    · cases hv
    · rename_i hb
      simp only [Option.some.injEq] at hv; subst hv
      exact ⟨_, by simp only [binOp, Op.shift, if_neg hb]; rfl, by simp only [VRel]⟩
  case shr =>
    simp only at hv
    split at hv
    · cases hv
    · rename_i hb
      simp only [Option.some.injEq] at hv; subst hv
      exact ⟨_, by simp only [binOp, Op.shift, if_neg hb]; rfl, by simp only [VRel]⟩
  case andNot => simp only [reduceCtorEq] at hv
  case quo =>
    simp only at hv
    split at hv
    · rename_i hb; obtain ⟨rfl, hb⟩ := hb
      simp only [Option.some.injEq] at hv; subst hv
      exact ⟨_, by simp only [binOp, ne_eq, not_true_eq_false, if_false, Op.intDiv, if_neg hb]; rfl, by simp only [VRel]⟩
    · cases hv
  case rem =>
    simp only at hv
    split at hv
    · rename_i hb; obtain ⟨rfl, hb⟩ := hb
      simp only [Option.some.injEq] at hv; subst hv
      exact ⟨_, by simp only [binOp, ne_eq, not_true_eq_false, if_false, Op.intDiv, if_neg hb]; rfl, by simp only [VRel]⟩
    · cases hv
  all_goals
    simp only at hv
    split at hv
    · rename_i hb; subst hb
      simp only [Option.some.injEq] at hv; subst hv
      refine ⟨_, by simp only [binOp, ne_eq, not_true_eq_false, if_false, Op.intArith, Op.intBits, Op.intCmp]; rfl, ?_⟩
      simp [VRel, int_beq, bne]
    · cases hv

theorem run_bin_str {op : BinOp} {t : TypeId} {a b : ByteArray} {v : AV} (hv : abin op (.str a) (.str b) = some v) :
    ∃ u, (binOp op t (.string a) (.string b)).run P w = .ok u w ∧ VRel m v u := by
  simp only [abin] at hv
  cases op
  case add =>
    simp only at hv
    split at hv
    · rename_i hb
      simp only [Option.some.injEq] at hv; subst hv
      refine ⟨.string (a ++ b), ?_, by simp only [VRel]⟩
      have hm : IntKind.i64.max = 9223372036854775807 := by decide
      simp only [binOp, Op.stringOp, hm]
      rw [if_neg (by omega)]
      rfl
    · cases hv
  all_goals
    simp only [Option.some.injEq, reduceCtorEq] at hv
  all_goals
    subst hv
    exact ⟨_, by simp only [binOp, Op.stringOp, str_beq]; rfl, by simp only [VRel]⟩

theorem run_bin_bool {op : BinOp} {t : TypeId} {a b : Bool} {v : AV} (hu : P.underlying t = some .bool) (hv : abin op (.bool a) (.bool b) = some v) :
    ∃ u, (binOp op t (.bool a) (.bool b)).run P w = .ok u w ∧ VRel m v u := by
  have he : (Op.equal t (.bool a) (.bool b)).run P w = .ok (a == b) w := by
    exact equalIn_bool hu 9999 a b
  simp only [abin] at hv
  cases op <;> simp only [Option.some.injEq, reduceCtorEq] at hv
  case eql =>
    subst hv
    exact ⟨_, by simp only [binOp, Sem.run_bind, he, Result.andThen_ok]; rfl, by simp only [VRel]⟩
  case neq =>
    subst hv
    exact ⟨_, by simp only [binOp, Sem.run_bind, he, Result.andThen_ok]; rfl, by simp only [VRel]⟩

theorem snd_bin (s : Sim B w0 m h w) {t : TypeId} {d : TypeDesc} {ty : Nat} (hu : P.underlying t = some d) (hd : ty = 2 → d = .bool) {op : BinOp} {x y : AV} {vx vy : Value} (rx : VRel m x vx) (ry : VRel m y vy) (g : (AOp.bin ty op x y).go P h K) :
    Res h.n B w0 m K ((binOp op t vx vy).run P w) := by
  simp only [AOp.go] at g
  split at g
  · rename_i hok
    split at g
    · rename_i v hv
      refine Res.of_run s ?_ g
      unfold binOk at hok
      split at hok
      · simp only [VRel] at rx ry
        subst rx; subst ry
        exact run_bin_int hv
      · simp only [VRel] at rx ry
        subst rx; subst ry
        exact run_bin_str hv
      · have hdd := hd rfl
        subst hdd
        simp only [VRel] at rx ry
        subst rx; subst ry
        exact run_bin_bool hu hv
      · cases hok
    · exact g.elim
  · exact g.elim

theorem snd_una (s : Sim B w0 m h w) {op : UnOp} {x : AV} {vx : Value} (rx : VRel m x vx) (g : (AOp.una op x).go P h K) :
    Res h.n B w0 m K ((Op.unary op vx).run P w) := by
  simp only [AOp.go] at g
  split at g
  · rename_i v hv
    refine Res.of_run s ?_ g
    cases x <;> simp only [auna, reduceCtorEq] at hv
    · simp only [VRel] at rx; subst rx
      cases op <;> simp only [Option.some.injEq, reduceCtorEq] at hv
      subst hv
      exact ⟨_, by simp only [Op.unary, Op.intArith]; rfl, by simp only [VRel]⟩
    · simp only [VRel] at rx; subst rx
      cases op <;> simp only [Option.some.injEq, reduceCtorEq] at hv
      subst hv
      exact ⟨_, by simp only [Op.unary]; rfl, by simp only [VRel]⟩
  · exact g.elim

theorem snd_conv (s : Sim B w0 m h w) {src dst : TypeId} {d : TypeDesc} {k : IntKind} (hs : P.underlying src = some d) (hd : P.underlying dst = some (.int k)) {x : AV} {vx : Value} (rx : VRel m x vx) (g : (AOp.conv k x).go P h K) :
    Res h.n B w0 m K ((convert src dst vx).run P w) := by
  simp only [AOp.go] at g
  split at g
  · rename_i k' n
    simp only [VRel] at rx; subst rx
    have : (convert src dst (.int k' n)).run P w = .ok (.int k (k.wrap n)) w := by
      simp [convert, run_underlying hs, run_underlying hd, Conv.intToInt]
    rw [this]
    exact Res.same s (by simp only [VRel]) g
  · exact g.elim

theorem snd_len (s : Sim B w0 m h w) {t ty' : TypeId} {d : TypeDesc} {ty : Nat} (hu : P.underlying t = some d) (hd : (ty = 0 → ∃ e, d = .slice e) ∧ (ty = 1 → d = .string)) {x : AV} {vx : Value} (rx : VRel m x vx) (g : (AOp.len ty x).go P h K) :
    Res h.n B w0 m K ((Builtin.len_ #[t] ty' #[vx]).run P w) := by
  simp only [AOp.go] at g
  split at g
  · rename_i hok
    split at g
    · rename_i n hn
      refine Res.of_run s ?_ g
      unfold lenOk at hok
      split at hok
      · obtain ⟨e, rfl⟩ := hd.1 rfl
        simp only [VRel] at rx
        obtain ⟨p, a, rcap, hp, rfl, _⟩ := rx
        simp only [sllen, Option.some.injEq] at hn; subst hn
        exact Exists.intro _ ⟨by simp [Builtin.len_, run_underlying hu, goInt], vrel_int⟩
      · obtain ⟨e, rfl⟩ := hd.1 rfl
        simp only [VRel] at rx; subst rx
        simp only [sllen, Option.some.injEq] at hn; subst hn
        exact ⟨.int .i64 ((0 : Nat) : Int), by simp [Builtin.len_, run_underlying hu, goInt], vrel_int⟩
      · have := hd.2 rfl; subst this
        simp only [VRel] at rx; subst rx
        simp only [sllen, Option.some.injEq] at hn; subst hn
        exact Exists.intro _ ⟨by simp [Builtin.len_, run_underlying hu, goInt], vrel_int⟩
      · cases hok
    · exact g.elim
  · exact g.elim

theorem snd_sidx (s : Sim B w0 m h w) {t : TypeId} (hu : P.underlying t = some .string) {x y : AV} {vx vy : Value} (rx : VRel m x vx) (ry : VRel m y vy) (g : (AOp.sidx x y).go P h K) :
    Res h.n B w0 m K ((Instr.index t vx vy).run P w) := by
  simp only [AOp.go] at g
  split at g
  · obtain ⟨h0, c, hc, k⟩ := g
    simp only [VRel] at rx ry
    subst rx; subst ry
    refine Res.of_run s ⟨.int .u8 c.toNat, ?_, vrel_int⟩ k
    simp [Instr.index, asIntOf, run_underlying hu, h0, hc]
  · exact g.elim

theorem snd_ext (s : Sim B w0 m h w) {x : AV} {vx : Value} {i : Nat} (rx : VRel m x vx) (g : (AOp.ext x i).go P h K) :
    Res h.n B w0 m K ((Instr.extract vx i).run P w) := by
  simp only [AOp.go] at g
  split at g
  · split at g
    · rename_i v hv
      simp only [VRel] at rx
      obtain ⟨l, hl, rfl⟩ := rx
      obtain ⟨u, h1, h2⟩ := hl.get _ _ hv
      exact Res.of_run s ⟨u, by simp [Instr.extract, h1], h2⟩ g
    · exact g.elim
  · exact g.elim

end Go.Ab
