/- Bytes, and a cursor over them, from which values are drawn. -/
import Derived.Test.YtpcgbddmdipfbaaAb46
set_option linter.unusedSimpArgs false
set_option linter.unusedVariables false
namespace Go.Ab
open Go.RowKit Go.ChangeShapes

instance : Cel UInt8 where
  w := 1
  ok := fun _ => True
  rep := fun h x cs F => cs = [.int .u8 (x.toNat : Int)] ∧ F = []
  pos := by decide
  len := by rintro h x cs F ⟨rfl, rfl⟩; rfl
  lt := by rintro h x cs F ⟨rfl, rfl⟩; simp
  keep := by rintro h h' x cs F r _; exact r

section
variable {P : Program}
theorem opens_byte {t : TypeId} {fuel : Nat} (ht : P.underlying t = some (.int .u8)) : OpensF UInt8 P t fuel := by
  intro H enc W held cs d ps hd _ w0 m h s
  obtain ⟨n, rfl, _, hw⟩ := DataW.trod_int ht hd
  simp only [Lit.wf, Bool.and_eq_true, decide_eq_true_eq] at hw
  have h1 : IntKind.u8.min = 0 := by decide
  have h2 : IntKind.u8.max = 255 := by decide
  obtain ⟨k, rfl⟩ : ∃ k : Nat, n = (k : Int) := ⟨n.toNat, by omega⟩
  have hk : ((UInt8.ofNat k).toNat : Int) = (k : Int) := by
    rw [UInt8.toNat_ofNat']; omega
  exact ⟨m, h, [.int .u8 (k : Int)], UInt8.ofNat k, [], Ext.refl _, m.le_refl, s, vrels_one (by simp only [VRel]), by simp [Value.oneCell'], ⟨by rw [hk], rfl⟩, trivial⟩
end

section
variable {P : Program} {h : AH} {Q : Nat → List AV → AH → Prop} {k : AV → Prog}
theorem aw_nilck {b o : Nat} (hk : (k (.ptr b o)).awp P h Q) : (Prog.op (.nilck (.ptr b o)) k).awp P h Q := hk
theorem aw_and {a m : Int} (h0 : 0 ≤ m) (hm : m < 9223372036854775808) (hk : ∀ x : Int, 0 ≤ x → x ≤ m → (k (.int .i64 x)).awp P h Q) : (Prog.op (.bin 0 .and (.int .i64 a) (.int .i64 m)) k).awp P h Q := by
  obtain ⟨m, rfl⟩ : ∃ n : Nat, m = (n : Int) := ⟨m.toNat, by omega⟩
  simp only [Prog.awp, AOp.go, binOk, abin, if_true]
  have e : (BitVec.ofInt IntKind.i64.bits a &&& BitVec.ofInt IntKind.i64.bits (m : Int)).toNat ≤ m := by
    rw [BitVec.toNat_and]
    refine Nat.le_trans Nat.and_le_right ?_
    rw [BitVec.toNat_ofInt]
    have : IntKind.i64.bits = 64 := rfl
    rw [this]
    omega
  rw [wrap_id (by omega) (by omega)]
  exact hk _ (by omega) (by omega)
theorem aw_muln {a b : Int} (h1 : -9223372036854775808 ≤ a * b) (h2 : a * b ≤ 9223372036854775807) (hk : (k (.int .i64 (a * b))).awp P h Q) : (Prog.op (.bin 0 .mul (.int .i64 a) (.int .i64 b)) k).awp P h Q := aw_mulw (by rw [wrap_id h1 h2]; exact hk)
theorem aw_shr {a b : Int} (hb : ¬ b < 0) (hk : ∀ x : Int, (k (.int .i64 x)).awp P h Q) : (Prog.op (.bin 0 .shr (.int .i64 a) (.int .u64 b)) k).awp P h Q := by
  simp only [Prog.awp, AOp.go, binOk, abin, if_neg hb]
  exact hk _
theorem aw_xor {a b : Int} (hk : ∀ x : Int, (k (.int .i64 x)).awp P h Q) : (Prog.op (.bin 0 .xor (.int .i64 a) (.int .i64 b)) k).awp P h Q := by
  simp only [Prog.awp, AOp.go, binOk, abin, if_true]
  exact hk _
end

/-- The walk, up to the next scope. -/
theorem vs0 {A B : Prop} (hb : B) (s : B → A := by ((apply it; (first | (with_reducible first | exact aw_ite_t | exact aw_ite_f | exact aw_mv | exact aw_fad | exact aw_alloc | exact aw_mkfn | exact aw_leaf | exact aw_pick_t | exact aw_pick_f | exact aw_pick | exact aw_not_t | exact aw_not_f | exact aw_not | exact aw_gop_tt | exact aw_gop_ff | exact aw_gop_tf | exact aw_gop_ft | exact aw_gop_un | exact aw_len_str | exact aw_fin1 | exact aw_fin2 | exact aw_tsel_eq | exact aw_nexts | exact w_bneqS | exact w_ineqS | exact w_seqS | exact w_sgeq | exact w_max | exact w_min | exact w_conv8 | exact w_gchk_tt | exact w_gchk_ff | exact w_gchk_tf | exact w_gchk_ft | exact w_gchk_un) | ((with_reducible apply gi_ld1); first | exact w_ld1 ld_auto) | ((with_reducible apply gi_ldn); first | exact w_ldn ldn_auto) | ((with_reducible apply gi_len); first | exact w_len (by assumption)) | ((with_reducible apply gi_box); first | exact aw_box (by rfl)) | ((with_reducible apply gi_st); first | exact w_st (by first | rfl | exact SlRep.cell (by assumption)) (by rfl) wr_auto) | ((with_reducible apply gi_ext); first | exact aw_ext (by rfl)) | ((with_reducible apply gi_fld1); first | exact aw_fld1 (by rfl)) | ((with_reducible apply gi_add); first | exact aw_inc (by omega) | exact aw_addn (by omega) (by omega)) | ((with_reducible apply gi_sub); exact aw_subn (by omega) (by omega)) | ((with_reducible apply gi_rem); exact aw_rem (by decide)) | ((with_reducible apply gi_quo); exact w_quo (by omega) (by decide) (by omega)) | ((with_reducible apply gi_build); first | exact aw_build af_auto) | ((with_reducible apply gi_bslice); first | exact w_bs af_auto (by decide) (by rfl)) | ((with_reducible apply gi_chkn); exact w_chkn ldn_auto) | ((with_reducible apply gi_chk1); exact w_chk1 ld_auto) | ((with_reducible apply gi_sidx); exact sx1 (by assumption)) | ((with_reducible apply gi_fin1); exact aw_fin_1 rv_auto) | ((with_reducible apply gi_fin2); exact aw_fin_2 rv_auto rv_auto) | ((with_reducible apply gi_fin3); exact aw_fin_3 rv_auto rv_auto rv_auto) | (exact aw_tsel_ne (by decide)) | (exact aw_ends (by decide)))); (repeat (apply it; (first | (with_reducible first | exact aw_ite_t | exact aw_ite_f | exact aw_mv | exact aw_fad | exact aw_alloc | exact aw_mkfn | exact aw_leaf | exact aw_pick_t | exact aw_pick_f | exact aw_pick | exact aw_not_t | exact aw_not_f | exact aw_not | exact aw_gop_tt | exact aw_gop_ff | exact aw_gop_tf | exact aw_gop_ft | exact aw_gop_un | exact aw_len_str | exact aw_fin1 | exact aw_fin2 | exact aw_tsel_eq | exact aw_nexts | exact w_bneqS | exact w_ineqS | exact w_seqS | exact w_sgeq | exact w_max | exact w_min | exact w_conv8 | exact w_gchk_tt | exact w_gchk_ff | exact w_gchk_tf | exact w_gchk_ft | exact w_gchk_un) | ((with_reducible apply gi_ld1); first | exact w_ld1 ld_auto) | ((with_reducible apply gi_ldn); first | exact w_ldn ldn_auto) | ((with_reducible apply gi_len); first | exact w_len (by assumption)) | ((with_reducible apply gi_box); first | exact aw_box (by rfl)) | ((with_reducible apply gi_st); first | exact w_st (by first | rfl | exact SlRep.cell (by assumption)) (by rfl) wr_auto) | ((with_reducible apply gi_ext); first | exact aw_ext (by rfl)) | ((with_reducible apply gi_fld1); first | exact aw_fld1 (by rfl)) | ((with_reducible apply gi_add); first | exact aw_inc (by omega) | exact aw_addn (by omega) (by omega)) | ((with_reducible apply gi_sub); exact aw_subn (by omega) (by omega)) | ((with_reducible apply gi_rem); exact aw_rem (by decide)) | ((with_reducible apply gi_quo); exact w_quo (by omega) (by decide) (by omega)) | ((with_reducible apply gi_build); first | exact aw_build af_auto) | ((with_reducible apply gi_bslice); first | exact w_bs af_auto (by decide) (by rfl)) | ((with_reducible apply gi_chkn); exact w_chkn ldn_auto) | ((with_reducible apply gi_chk1); exact w_chk1 ld_auto) | ((with_reducible apply gi_sidx); exact sx1 (by assumption)) | ((with_reducible apply gi_fin1); exact aw_fin_1 rv_auto) | ((with_reducible apply gi_fin2); exact aw_fin_2 rv_auto rv_auto) | ((with_reducible apply gi_fin3); exact aw_fin_3 rv_auto rv_auto rv_auto) | (exact aw_tsel_ne (by decide)) | (exact aw_ends (by decide))))); exact fun x => x)) : A := s hb
section
variable {P : Program} {h : AH} {Q : Nat → List AV → AH → Prop}
/-- What a scope leaves. -/
theorem aw_join {p : Prog} {kn : List AV → Prog} {ka : Nat → List AV → Prog} (R : AH → Prop) (h1 : p.awp P h fun t _ h2 => t = 0 ∧ R h2) (hk : ∀ vs h2, R h2 → (kn vs).awp P h2 Q) : (Prog.scope p kn ka).awp P h Q := by
  refine aw_scope (Prog.awp_mono _ h1 ?_)
  rintro t vs h3 ⟨rfl, hR⟩
  exact aw_nexts (hk vs h3 hR)
/-- What a scope leaves that begins with a question. -/
theorem aw_eqjoin {q : IntKind} {a b : Int} {p p' : Prog} {kn : List AV → Prog} {ka : Nat → List AV → Prog} (R : AH → Prop) (h1 : a = b → p.awp P h fun t _ h2 => t = 0 ∧ R h2) (h2 : a ≠ b → p'.awp P h fun t _ h2 => t = 0 ∧ R h2) (hk : ∀ vs h2, R h2 → (kn vs).awp P h2 Q) : (Prog.op (.bin 0 .eql (.int q a) (.int q b)) fun v => .scope (.ite v p p') kn ka).awp P h Q :=
  aw_eql (fun e => aw_join R (aw_ite_t (h1 e)) hk) (fun e => aw_join R (aw_ite_f (h2 e)) hk)
end

/-- A cursor: the bytes, how far it is, and a number. All its bytes lie below it. -/
def Cur (h : AH) (c : Nat) : Prop := ∃ (l : List UInt8) (vb : AV) (F : List Nat) (i z : Int), Bk h c [vb, .int .i64 i, .int .i64 z] 0 ∧ SlRep h vb l F ∧ (∀ b ∈ F, b < c) ∧ 0 ≤ i ∧ i ≤ l.length
section
variable {g h h' : AH} {c b : Nat} {k : Blk} {X : List Nat}
theorem Cur.lt (a : Cur h c) : c < h.n := by obtain ⟨l, vb, F, i, z, b, _⟩ := a; exact b.1
theorem cur_push1 (a : Cur h c) : Cur (h.push k) c := by
  obtain ⟨l, vb, F, i, z, b, r, lt, i0, i1⟩ := a
  exact ⟨l, vb, F, i, z, bk_push1 b, slr_push1 r, lt, i0, i1⟩
theorem cur_upd1 (hb : c < b) (a : Cur h c) : Cur (h.upd b k) c := by
  obtain ⟨l, vb, F, i, z, bk, r, lt, i0, i1⟩ := a
  exact ⟨l, vb, F, i, z, bk_upd1 bk (by omega), slr_upd1 r (fun hm => by have := lt b hm; omega), lt, i0, i1⟩
theorem cur_ext1 (e : Ext g h) (a : Cur g c) : Cur h c := by
  obtain ⟨l, vb, F, i, z, bk, r, lt, i0, i1⟩ := a
  exact ⟨l, vb, F, i, z, bk_ext1 e bk, slr_ext1 e r, lt, i0, i1⟩
theorem cur_kp1 (e : Kp g h X) (a : Cur g c) (hX : ∀ b ∈ X, c < b) : Cur h c := by
  obtain ⟨l, vb, F, i, z, bk, r, lt, i0, i1⟩ := a
  exact ⟨l, vb, F, i, z, bk_kp1 e bk (fun hm => by have := hX _ hm; omega), slr_kp1 e r (fun b hb hm => by have := hX _ hm; have := lt b hb; omega), lt, i0, i1⟩
theorem kp_upd1 (hb : g.n ≤ b) (e : Kp g h X) : Kp g (h.upd b k) X := by
  refine ⟨e.1, fun x hx hX => ?_⟩
  have : x ≠ b := by omega
  rw [← e.2 x hx hX]
  simp [this]
theorem kp_step (e' : Kp h h' X) (e : Kp g h X) : Kp g h' X := e.trans e'
theorem kp_stepe (e' : Ext h h') (e : Kp g h X) : Kp g h' X := e.trans_ext e'
theorem kp_stepN {Y : List Nat} (e' : Kp h h' Y) (e : Kp g h X) (hY : ∀ x ∈ Y, g.n ≤ x) : Kp g h' X := e.new e' hY
end
/-- What stays of a heap where values are drawn, found. -/
theorem kp_auto {g h : AH} {X : List Nat} (a : Kp g h X := by (repeat (first | assumption | with_reducible exact Kp.refl _ _ | with_reducible apply Kp.push | ((with_reducible apply kp_upd1); exact om_auto) | ((with_reducible apply kp_step); assumption) | ((with_reducible apply kp_stepe); assumption) | ((with_reducible apply kp_stepN); assumption) | exact low_own (by assumption) om_auto | exact om_auto))) : Kp g h X := a
theorem cur_auto {h : AH} {c : Nat} (a : Cur h c := by (repeat (first | assumption | with_reducible apply cur_push1 | ((with_reducible apply cur_upd1); exact om_auto) | ((with_reducible apply cur_ext1); assumption) | exact om_auto))) : Cur h c := a

/-- What a draw of a number leaves. -/
def DrI (h : AH) (c : Nat) (lo hi : Int) : AV → AH → Prop := fun u h' => ∃ x : Int, u = .int .i64 x ∧ lo ≤ x ∧ x < hi ∧ Kp h h' [c] ∧ Cur h' c
def DrB (h : AH) (c : Nat) : AV → AH → Prop := fun u h' => ∃ b : Bool, u = .bool b ∧ Kp h h' [c] ∧ Cur h' c
/-- What a draw of a value leaves. -/
def DrX (α : Type) [Cel α] (h : AH) (c : Nat) (p : α → Prop) : AV → AH → Prop := fun u h' => ∃ x cs F, u = .agg cs ∧ Cel.rep h' x cs F ∧ Own h.n h' F ∧ Kp h h' [c] ∧ Cur h' c ∧ p x
def DrS (α : Type) [Cel α] (h : AH) (c : Nat) (p : List α → Prop) : AV → AH → Prop := fun u h' => ∃ xs F, SlRep h' u xs F ∧ Own h.n h' F ∧ Kp h h' [c] ∧ Cur h' c ∧ p xs
end Go.Ab
