/- Stable sorts: what the library's functions leave in a slice of one's own. -/
import Derived.Test.YtpcgbddmdipfbaaAb45
set_option linter.unusedSimpArgs false
set_option linter.unusedVariables false
namespace Go.Ab
open Go.RowKit

section
variable {P : Program} {h : AH} {Q : Nat → List AV → AH → Prop} {k : AV → Prog}
theorem aw_addN {a b : Int} (n : Nat) (e : a + b = (n : Int)) (hn : n < 4611686018427387904) (hk : (k (.int .i64 (n : Int))).awp P h Q) : (Prog.op (.bin 0 .add (.int .i64 a) (.int .i64 b)) k).awp P h Q := aw_addn (by omega) (by omega) (by rw [e]; exact hk)
theorem aw_subN {a b : Int} (n : Nat) (e : a - b = (n : Int)) (hn : n < 4611686018427387904) (hk : (k (.int .i64 (n : Int))).awp P h Q) : (Prog.op (.bin 0 .sub (.int .i64 a) (.int .i64 b)) k).awp P h Q := aw_subn (by omega) (by omega) (by rw [e]; exact hk)
theorem aw_mulN {a b : Int} (n : Nat) (e : a * b = (n : Int)) (hn : n < 4611686018427387904) (hk : (k (.int .i64 (n : Int))).awp P h Q) : (Prog.op (.bin 0 .mul (.int .i64 a) (.int .i64 b)) k).awp P h Q := aw_mulw (by rw [e, wrap_id (by omega) (by omega)]; exact hk)
theorem wrap_u64 (n : Int) : IntKind.u64.wrap n = n % 18446744073709551616 := by
  unfold IntKind.wrap
  simp [IntKind.signed, IntKind.bits]
theorem aw_half {n : Nat} (hn : n < 4611686018427387904) (hk : (k (.int .i64 ((n / 2 : Nat) : Int))).awp P h Q) : (Prog.op (.conv .u64 (.int .i64 (n : Int))) fun a => .op (.bin 0 .shr a (.int .u64 1)) fun b => .op (.conv .i64 b) k).awp P h Q := by
  refine aw_conv ?_
  have e1 : IntKind.u64.wrap (n : Int) = (n : Int) := by rw [wrap_u64]; omega
  rw [e1]
  have e2 : abin .shr (.int .u64 (n : Int)) (.int .u64 1) = some (.int .u64 ((n / 2 : Nat) : Int)) := by
    simp only [abin]
    rw [if_neg (by decide)]
    have : (2 : Int) ^ (min (1 : Int).toNat (IntKind.bits .u64)) = 2 := by decide
    rw [this, Int.fdiv_eq_ediv_of_nonneg _ (by decide)]
    congr 2
  simp only [Prog.awp, AOp.go, binOk, e2]
  have e3 : IntKind.i64.wrap ((n / 2 : Nat) : Int) = ((n / 2 : Nat) : Int) := by rw [IntKind.wrap_i64]; omega
  rw [e3]; exact hk
theorem aw_fin0 (hk : Q 1 [.tup []] h) : (Prog.fin []).awp P h Q := hk
end

/-- How an element is read. -/
class SEl (α : Type) [Cel α] where
  lo : AV → AOp
  v : List AV → AV
  ld : ∀ {P : Program} {h h0 : AH} {b o : Nat} {x : α} {cs : List AV} {F : List Nat} {k : AV → Prog} {Q : Nat → List AV → AH → Prop}, At h b o cs → Cel.rep h0 x cs F → (k (v cs)).awp P h Q → (Prog.op (lo (.ptr b o)) k).awp P h Q
  vc : ∀ {h : AH} {x : α} {cs : List AV} {F : List Nat}, Cel.rep h x cs F → (v cs).cells? = some cs
instance : SEl Int where
  lo := .ld1
  v := fun cs => cs.headD .un
  ld := by
    intro P h h0 b o x cs F k Q a r hk
    obtain ⟨rfl, _⟩ := r
    exact aw_ld1_at a (Ext.refl _) hk
  vc := by
    intro h x cs F r
    obtain ⟨rfl, _⟩ := r
    rfl
instance : SEl Trail where
  lo := .ldn 4
  v := .agg
  ld := by
    intro P h h0 b o x cs F k Q a r hk
    have hl : cs.length = 4 := Cel.len r
    exact aw_ldn_at a (Ext.refl _) (by decide) (List.take_of_length_le (by omega)) hl hk
  vc := fun _ => rfl
theorem swp_comm {α : Type} (xs : List α) {i j : Nat} (hij : i ≠ j) : swp xs i j = swp xs j i := by
  unfold swp
  cases hi : xs[i]? with
  | none => cases hj : xs[j]? <;> rfl
  | some x => cases hj : xs[j]? with
    | none => rfl
    | some y => exact List.set_comm _ _ hij

def cmpI (a b : Int) : Int := if a < b then -1 else if b < a then 1 else 0
theorem cmpI_lt {a b : Int} : cmpI a b < 0 ↔ a < b := by unfold cmpI; split <;> (try split) <;> omega

section
variable {α : Type} [Cel α] {P : Program} {h h' : AH} {n : Nat}
/-- What is left: the same memory, in another order. -/
def MutR (n : Nat) (h : AH) (v : AV) (F : List Nat) (ys : List α) (h' : AH) : Prop := Kp h h' F ∧ ∃ F', F'.Perm F ∧ SlRep h' v ys F' ∧ Own n h' F'
theorem MutR.refl {v : AV} {F : List Nat} {xs : List α} (r : SlRep h v xs F) (o : Own n h F) : MutR n h v F xs h := ⟨Kp.refl _ _, F, List.Perm.refl _, r, o⟩
theorem MutR.trans {h1 h2 : AH} {v : AV} {F F' : List Nat} {ys : List α} (k : Kp h h1 F) (p : F'.Perm F) (m : MutR n h1 v F' ys h2) : MutR n h v F ys h2 := by
  obtain ⟨k2, F2, p2, r2, o2⟩ := m
  exact ⟨k.trans ⟨k2.1, fun b hb hX => k2.2 b hb fun hm => hX (p.mem_iff.1 hm)⟩, F2, p2.trans p, r2, o2⟩
def MutP (n : Nat) (h : AH) (v : AV) (F : List Nat) (ys : List α) : Nat → List AV → AH → Prop := fun t vs h' => t = 1 ∧ ∃ u, vs = [u] ∧ MutR n h v F ys h'
def MutC (P : Program) (f : FuncId) (args : List AV) (n : Nat) (h : AH) (v : AV) (F : List Nat) (ys : List α) : Prop := ACalls P f args h fun _ h' => MutR n h v F ys h'

end
section
variable {α : Type} [Cel α] [SEl α] {P : Program} {h h' : AH} {Q : Nat → List AV → AH → Prop} {n : Nat}

/-- A function that compares by a key. -/
def CmpOk (P : Program) (key : α → Int) (U : α → Prop) (h0 : AH) (F : List Nat) (c : AV) : Prop :=
  ∃ f caps, c = .fn f caps ∧ ∀ h', Kp h0 h' F → ∀ (x y : α) (cx cy : List AV) (Fx Fy : List Nat), U x → U y → Cel.rep h' x cx Fx → Cel.rep h' y cy Fy → RCalls P f ([SEl.v α cx, SEl.v α cy] ++ caps) h' (.int .i64 (cmpI (key x) (key y)))
theorem CmpOk.kp {key : α → Int} {U : α → Prop} {F F' : List Nat} {c : AV} (o : CmpOk P key U h F c) (k : Kp h h' F) (p : F'.Perm F) : CmpOk P key U h' F' c := by
  obtain ⟨f, caps, rfl, hc⟩ := o
  exact ⟨f, caps, rfl, fun h2 k2 => hc h2 (k.trans ⟨k2.1, fun b hb hX => k2.2 b hb fun hm => hX (p.mem_iff.1 hm)⟩)⟩
theorem aw_el {v : AV} {xs : List α} {F : List Nat} {i : Nat} {x : α} {k : AV → Prog} (r : SlRep h v xs F) (hx : xs[i]? = some x) (hk : ∀ cx Fx, Cel.rep h x cx Fx → (k (SEl.v α cx)).awp P h Q) : (Prog.op (.idx (Cel.w α) v (.int .i64 (i : Int))) fun a => .op (SEl.lo α a) k).awp P h Q :=
  aw_idx r hx rfl fun b o cs Fi a rx _ => SEl.ld a rx (hk cs Fi rx)
/-- Two are read, and change places. -/
theorem aw_two {v : AV} {xs : List α} {F : List Nat} (r : SlRep h v xs F) (o : Own n h F) {p q : Nat} {x y : α} (hp : xs[p]? = some x) (hq : xs[q]? = some y) (hne : p ≠ q) :
    ∃ cx cy, (∀ (k : AV → Prog) (Q : Nat → List AV → AH → Prop), (k (SEl.v α cx)).awp P h Q → (Prog.op (.idx (Cel.w α) v (.int .i64 (p : Int))) fun a => .op (SEl.lo α a) k).awp P h Q) ∧
      (∀ (k : AV → Prog) (Q : Nat → List AV → AH → Prop), (k (SEl.v α cy)).awp P h Q → (Prog.op (.idx (Cel.w α) v (.int .i64 (q : Int))) fun a => .op (SEl.lo α a) k).awp P h Q) ∧
      (∀ (K : Prog) (Q : Nat → List AV → AH → Prop), (∀ h' F', Kp h h' F → F'.Perm F → SlRep h' v (swp xs p q) F' → Own n h' F' → K.awp P h' Q) →
        (Prog.op (.idx (Cel.w α) v (.int .i64 (p : Int))) fun a => .op (.st (Cel.w α) a (SEl.v α cy)) fun _ => .op (.idx (Cel.w α) v (.int .i64 (q : Int))) fun b => .op (.st (Cel.w α) b (SEl.v α cx)) fun _ => K).awp P h Q) := by
  have hpl := (List.getElem?_eq_some_iff.1 hp).1
  have hql := (List.getElem?_eq_some_iff.1 hq).1
  rcases Nat.lt_or_gt_of_ne hne with hlt | hlt
  · obtain ⟨b, off, A, cx, M, cy, R, G1, Fx, G2, Fy, G3, rfl, rfl, hg, hb, hA, hM, rx, ry, back⟩ := r.two o hlt hp hq
    have lx := Cel.len rx
    have ly := Cel.len ry
    have perm : (b :: (G1 ++ (Fy ++ (G2 ++ (Fx ++ G3))))).Perm (b :: (G1 ++ (Fx ++ (G2 ++ (Fy ++ G3))))) := perm_two
    refine ⟨cx, cy, fun k Q hk => aw_idx_n hpl (SEl.ld (at_z (es := 0) (st := 0) (A := A) (E := cx) (R := M ++ (cy ++ R)) hb (by simp [live, hg]) (by rw [hg]) hA) rx hk), fun k Q hk => aw_idx_n hql (SEl.ld (at_z (es := 0) (st := 0) (A := A ++ (cx ++ M)) (E := cy) (R := R) hb (by simp [live, hg]) (by rw [hg]; simp) (by simp; omega)) ry hk), fun K Q hk => ?_⟩
    have e : h = h.upd b ⟨A ++ (cx ++ (M ++ (cy ++ R))), Cel.w α, 0⟩ := by rw [← hg]; exact upd_same.symm
    have back' := back (h.upd b ⟨A ++ (cy ++ (M ++ (cx ++ R))), Cel.w α, 0⟩) (by simp) kp_upd
    have hk' := hk _ _ (kp_upd.mono (by simp)) perm back'.1 back'.2
    refine aw_idx_n hpl ?_
    rw [e]
    refine aw_st_u (SEl.vc ry) (by omega) (by omega) hA.symm ?_
    refine aw_idx_n hql ?_
    have e2 : A ++ (cy ++ (M ++ (cy ++ R))) = (A ++ (cy ++ M)) ++ (cy ++ R) := by simp
    rw [e2]
    refine aw_st_u (SEl.vc rx) (by omega) (by omega) (by simp; omega) ?_
    have e3 : (A ++ (cy ++ M)) ++ (cx ++ R) = A ++ (cy ++ (M ++ (cx ++ R))) := by simp
    rw [e3]; exact hk'
  · obtain ⟨b, off, A, cy, M, cx, R, G1, Fy, G2, Fx, G3, rfl, rfl, hg, hb, hA, hM, ry, rx, back⟩ := r.two o hlt hq hp
    have lx := Cel.len rx
    have ly := Cel.len ry
    have perm : (b :: (G1 ++ (Fx ++ (G2 ++ (Fy ++ G3))))).Perm (b :: (G1 ++ (Fy ++ (G2 ++ (Fx ++ G3))))) := perm_two
    refine ⟨cx, cy, fun k Q hk => aw_idx_n hpl (SEl.ld (at_z (es := 0) (st := 0) (A := A ++ (cy ++ M)) (E := cx) (R := R) hb (by simp [live, hg]) (by rw [hg]; simp) (by simp; omega)) rx hk), fun k Q hk => aw_idx_n hql (SEl.ld (at_z (es := 0) (st := 0) (A := A) (E := cy) (R := M ++ (cx ++ R)) hb (by simp [live, hg]) (by rw [hg]) hA) ry hk), fun K Q hk => ?_⟩
    have e : h = h.upd b ⟨A ++ (cy ++ (M ++ (cx ++ R))), Cel.w α, 0⟩ := by rw [← hg]; exact upd_same.symm
    have back' := back (h.upd b ⟨A ++ (cx ++ (M ++ (cy ++ R))), Cel.w α, 0⟩) (by simp) kp_upd
    rw [swp_comm _ (Ne.symm hne)] at back'
    have hk' := hk _ _ (kp_upd.mono (by simp)) perm back'.1 back'.2
    refine aw_idx_n hpl ?_
    rw [e]
    have e1 : A ++ (cy ++ (M ++ (cx ++ R))) = (A ++ (cy ++ M)) ++ (cx ++ R) := by simp
    rw [e1]
    refine aw_st_u (SEl.vc ry) (by omega) (by omega) (by simp; omega) ?_
    refine aw_idx_n hql ?_
    have e2 : (A ++ (cy ++ M)) ++ (cy ++ R) = A ++ (cy ++ (M ++ (cy ++ R))) := by simp
    rw [e2]
    refine aw_st_u (SEl.vc rx) (by omega) (by omega) hA.symm ?_
    exact hk'
end

def pSwr (w : Nat) (lo : AV → AOp) (x0 x1 x2 x3 x4 : AV) : Prog := .loop [AV.int .i64 0] (fun vs1 => .op (.bin 0 .lss (g vs1 0) x3) fun v3 => .ite v3 (.op (.bin 0 .add x1 (g vs1 0)) fun v4 => .op (.bin 0 .add x2 (g vs1 0)) fun v5 => .op (.bin 0 .add x2 (g vs1 0)) fun v6 => .op (.idx w x0 v6) fun v7 => .op (lo v7) fun v8 => .op (.bin 0 .add x1 (g vs1 0)) fun v9 => .op (.idx w x0 v9) fun v10 => .op (lo v10) fun v11 => .op (.idx w x0 v4) fun v12 => .op (.st w v12 v8) fun v13 => .op (.idx w x0 v5) fun v14 => .op (.st w v14 v11) fun v15 => .op (.bin 0 .add (g vs1 0) (AV.int .i64 1)) fun v16 => .leaf 0 [v16]) (.leaf 2 [g vs1 0])) fun t2 vs1 => tsel t2 1 (.leaf 1 vs1) (tsel t2 2 (.fin []) .bad)
def pRot (cw : Nat) (x0 x1 x2 x3 x4 : AV) : Prog := .op (.bin 0 .sub x2 x1) fun v1 => .op (.bin 0 .sub x3 x2) fun v2 => .loop [v1, v2] (fun vs3 => .op (.bin 0 .neq (g vs3 0) (g vs3 1)) fun v5 => .ite v5 (.op (.bin 0 .gtr (g vs3 0) (g vs3 1)) fun v6 => .scope (.ite v6 (.op (.bin 0 .sub x2 (g vs3 0)) fun v7 => .op (.call cw [x0, v7, x2, g vs3 1, x4]) fun v8 => .op (.bin 0 .sub (g vs3 0) (g vs3 1)) fun v9 => .leaf 0 [v9, g vs3 1]) (.op (.bin 0 .sub x2 (g vs3 0)) fun v10 => .op (.bin 0 .add x2 (g vs3 1)) fun v11 => .op (.bin 0 .sub v11 (g vs3 0)) fun v12 => .op (.call cw [x0, v10, v12, g vs3 0, x4]) fun v13 => .op (.bin 0 .sub (g vs3 1) (g vs3 0)) fun v14 => .leaf 0 [g vs3 0, v14])) (fun vs15 => .leaf 0 [g vs15 0, g vs15 1]) fun t16 vs15 => tsel t16 1 (.leaf 1 vs15) .bad) (.leaf 2 [g vs3 0, g vs3 1])) fun t4 vs3 => tsel t4 1 (.leaf 1 vs3) (tsel t4 2 (.op (.bin 0 .sub x2 (g vs3 0)) fun v17 => .op (.call cw [x0, v17, x2, g vs3 0, x4]) fun v18 => .fin []) .bad)
def pIns (w : Nat) (lo : AV → AOp) (x0 x1 x2 x3 : AV) : Prog := .op (.bin 0 .add x1 (AV.int .i64 1)) fun v1 => .loop [v1, .tup []] (fun vs2 => .op (.bin 0 .lss (g vs2 0) x2) fun v4 => .ite v4 (.loop [g vs2 0] (fun vs5 => .op (.bin 0 .gtr (g vs5 0) x1) fun v7 => .gop v7 true (.mv x3) fun v8 => .gop v7 true (.mv x0) fun v9 => .gop v7 true (.mv (g vs5 0)) fun v10 => .gop v7 true (.idx w v9 v10) fun v11 => .gop v7 true (lo v11) fun v12 => .gop v7 true (.mv x0) fun v13 => .gop v7 true (.mv (g vs5 0)) fun v14 => .gop v7 true (.bin 0 .sub v14 (AV.int .i64 1)) fun v15 => .gop v7 true (.idx w v13 v15) fun v16 => .gop v7 true (lo v16) fun v17 => .gop v7 true (.callv v8 [v12, v17]) fun v18 => .gop v7 true (.bin 0 .lss v18 (AV.int .i64 0)) fun v19 => .op (.pick v7 v19 (AV.bool false)) fun v20 => .ite v20 (.op (.bin 0 .sub (g vs5 0) (AV.int .i64 1)) fun v21 => .op (.bin 0 .sub (g vs5 0) (AV.int .i64 1)) fun v22 => .op (.idx w x0 v22) fun v23 => .op (lo v23) fun v24 => .op (.idx w x0 (g vs5 0)) fun v25 => .op (lo v25) fun v26 => .op (.idx w x0 (g vs5 0)) fun v27 => .op (.st w v27 v24) fun v28 => .op (.idx w x0 v21) fun v29 => .op (.st w v29 v26) fun v30 => .op (.bin 0 .sub (g vs5 0) (AV.int .i64 1)) fun v31 => .leaf 0 [v31]) (.leaf 4 [g vs5 0])) fun t6 vs5 => tsel t6 1 (.leaf 1 vs5) (tsel t6 4 (.op (.bin 0 .add (g vs2 0) (AV.int .i64 1)) fun v32 => .leaf 0 [v32, g vs5 0]) .bad)) (.leaf 2 [g vs2 0, g vs2 1])) fun t3 vs2 => tsel t3 1 (.leaf 1 vs2) (tsel t3 2 (.fin []) .bad)
def pSym (w : Nat) (lo : AV → AOp) (cr : Nat) (cm : Nat) (x0 x1 x2 x3 x4 : AV) : Prog := .op (.bin 0 .sub x2 x1) fun v1 => .op (.bin 0 .eql v1 (AV.int .i64 1)) fun v2 => .ite v2 (.loop [x2, x3] (fun vs3 => .op (.bin 0 .lss (g vs3 0) (g vs3 1)) fun v5 => .ite v5 (.op (.bin 0 .add (g vs3 0) (g vs3 1)) fun v6 => .op (.conv .u64 v6) fun v7 => .op (.bin 0 .shr v7 (AV.int .u64 1)) fun v8 => .op (.conv .i64 v8) fun v9 => .op (.idx w x0 v9) fun v10 => .op (lo v10) fun v11 => .op (.idx w x0 x1) fun v12 => .op (lo v12) fun v13 => .op (.callv x4 [v11, v13]) fun v14 => .op (.bin 0 .lss v14 (AV.int .i64 0)) fun v15 => .scope (.ite v15 (.op (.bin 0 .add v9 (AV.int .i64 1)) fun v16 => .leaf 0 [v16, g vs3 1]) (.leaf 0 [g vs3 0, v9])) (fun vs17 => .leaf 0 [g vs17 0, g vs17 1]) fun t18 vs17 => tsel t18 1 (.leaf 1 vs17) .bad) (.leaf 2 [g vs3 0, g vs3 1])) fun t4 vs3 => tsel t4 1 (.leaf 1 vs3) (tsel t4 2 (.loop [x1] (fun vs19 => .op (.bin 0 .sub (g vs3 0) (AV.int .i64 1)) fun v21 => .op (.bin 0 .lss (g vs19 0) v21) fun v22 => .ite v22 (.op (.bin 0 .add (g vs19 0) (AV.int .i64 1)) fun v23 => .op (.bin 0 .add (g vs19 0) (AV.int .i64 1)) fun v24 => .op (.idx w x0 v24) fun v25 => .op (lo v25) fun v26 => .op (.idx w x0 (g vs19 0)) fun v27 => .op (lo v27) fun v28 => .op (.idx w x0 (g vs19 0)) fun v29 => .op (.st w v29 v26) fun v30 => .op (.idx w x0 v23) fun v31 => .op (.st w v31 v28) fun v32 => .op (.bin 0 .add (g vs19 0) (AV.int .i64 1)) fun v33 => .leaf 0 [v33]) (.leaf 4 [g vs19 0])) fun t20 vs19 => tsel t20 1 (.leaf 1 vs19) (tsel t20 4 (.fin []) .bad)) .bad)) (.op (.bin 0 .sub x3 x2) fun v34 => .op (.bin 0 .eql v34 (AV.int .i64 1)) fun v35 => .ite v35 (.loop [x1, x2] (fun vs36 => .op (.bin 0 .lss (g vs36 0) (g vs36 1)) fun v38 => .ite v38 (.op (.bin 0 .add (g vs36 0) (g vs36 1)) fun v39 => .op (.conv .u64 v39) fun v40 => .op (.bin 0 .shr v40 (AV.int .u64 1)) fun v41 => .op (.conv .i64 v41) fun v42 => .op (.idx w x0 x2) fun v43 => .op (lo v43) fun v44 => .op (.idx w x0 v42) fun v45 => .op (lo v45) fun v46 => .op (.callv x4 [v44, v46]) fun v47 => .op (.bin 0 .lss v47 (AV.int .i64 0)) fun v48 => .op (.una .not v48) fun v49 => .scope (.ite v49 (.op (.bin 0 .add v42 (AV.int .i64 1)) fun v50 => .leaf 0 [v50, g vs36 1]) (.leaf 0 [g vs36 0, v42])) (fun vs51 => .leaf 0 [g vs51 0, g vs51 1]) fun t52 vs51 => tsel t52 1 (.leaf 1 vs51) .bad) (.leaf 6 [g vs36 0, g vs36 1])) fun t37 vs36 => tsel t37 1 (.leaf 1 vs36) (tsel t37 6 (.loop [x2] (fun vs53 => .op (.bin 0 .gtr (g vs53 0) (g vs36 0)) fun v55 => .ite v55 (.op (.bin 0 .sub (g vs53 0) (AV.int .i64 1)) fun v56 => .op (.bin 0 .sub (g vs53 0) (AV.int .i64 1)) fun v57 => .op (.idx w x0 v57) fun v58 => .op (lo v58) fun v59 => .op (.idx w x0 (g vs53 0)) fun v60 => .op (lo v60) fun v61 => .op (.idx w x0 (g vs53 0)) fun v62 => .op (.st w v62 v59) fun v63 => .op (.idx w x0 v56) fun v64 => .op (.st w v64 v61) fun v65 => .op (.bin 0 .sub (g vs53 0) (AV.int .i64 1)) fun v66 => .leaf 0 [v66]) (.leaf 8 [g vs53 0])) fun t54 vs53 => tsel t54 1 (.leaf 1 vs53) (tsel t54 8 (.fin []) .bad)) .bad)) (.op (.bin 0 .add x1 x3) fun v67 => .op (.conv .u64 v67) fun v68 => .op (.bin 0 .shr v68 (AV.int .u64 1)) fun v69 => .op (.conv .i64 v69) fun v70 => .op (.bin 0 .add v70 x2) fun v71 => .op (.bin 0 .gtr x2 v70) fun v72 => .scope (.ite v72 (.op (.bin 0 .sub v71 x3) fun v73 => .leaf 0 [v73, v70]) (.leaf 0 [x1, x2])) (fun vs74 => .op (.bin 0 .sub v71 (AV.int .i64 1)) fun v76 => .loop [g vs74 0, g vs74 1] (fun vs77 => .op (.bin 0 .lss (g vs77 0) (g vs77 1)) fun v79 => .ite v79 (.op (.bin 0 .add (g vs77 0) (g vs77 1)) fun v80 => .op (.conv .u64 v80) fun v81 => .op (.bin 0 .shr v81 (AV.int .u64 1)) fun v82 => .op (.conv .i64 v82) fun v83 => .op (.bin 0 .sub v76 v83) fun v84 => .op (.idx w x0 v84) fun v85 => .op (lo v85) fun v86 => .op (.idx w x0 v83) fun v87 => .op (lo v87) fun v88 => .op (.callv x4 [v86, v88]) fun v89 => .op (.bin 0 .lss v89 (AV.int .i64 0)) fun v90 => .op (.una .not v90) fun v91 => .scope (.ite v91 (.op (.bin 0 .add v83 (AV.int .i64 1)) fun v92 => .leaf 0 [v92, g vs77 1]) (.leaf 0 [g vs77 0, v83])) (fun vs93 => .leaf 0 [g vs93 0, g vs93 1]) fun t94 vs93 => tsel t94 1 (.leaf 1 vs93) .bad) (.leaf 10 [g vs77 0, g vs77 1])) fun t78 vs77 => tsel t78 1 (.leaf 1 vs77) (tsel t78 10 (.op (.bin 0 .sub v71 (g vs77 0)) fun v95 => .op (.bin 0 .lss (g vs77 0) x2) fun v96 => .gop v96 true (.mv x2) fun v97 => .gop v96 true (.mv v95) fun v98 => .gop v96 true (.bin 0 .lss v97 v98) fun v99 => .op (.pick v96 v99 (AV.bool false)) fun v100 => .scope (.ite v100 (.op (.call cr [x0, g vs77 0, x2, v95, x4]) fun v101 => .leaf 0 []) (.leaf 0 [])) (fun vs102 => .op (.bin 0 .lss x1 (g vs77 0)) fun v104 => .gop v104 true (.mv (g vs77 0)) fun v105 => .gop v104 true (.mv v70) fun v106 => .gop v104 true (.bin 0 .lss v105 v106) fun v107 => .op (.pick v104 v107 (AV.bool false)) fun v108 => .scope (.ite v108 (.op (.call cm [x0, x1, g vs77 0, v70, x4]) fun v109 => .leaf 0 []) (.leaf 0 [])) (fun vs110 => .op (.bin 0 .lss v70 v95) fun v112 => .gop v112 true (.mv v95) fun v113 => .gop v112 true (.mv x3) fun v114 => .gop v112 true (.bin 0 .lss v113 v114) fun v115 => .op (.pick v112 v115 (AV.bool false)) fun v116 => .scope (.ite v116 (.op (.call cm [x0, v70, v95, x3, x4]) fun v117 => .leaf 0 []) (.leaf 0 [])) (fun vs118 => .fin []) fun t119 vs118 => tsel t119 1 (.leaf 1 vs118) .bad) fun t111 vs110 => tsel t111 1 (.leaf 1 vs110) .bad) fun t103 vs102 => tsel t103 1 (.leaf 1 vs102) .bad) .bad)) fun t75 vs74 => tsel t75 1 (.leaf 1 vs74) .bad))
def pStb (ci : Nat) (cm : Nat) (x0 x1 x2 : AV) : Prog := .loop [AV.int .i64 0, AV.int .i64 20] (fun vs1 => .op (.bin 0 .leq (g vs1 1) x1) fun v3 => .ite v3 (.op (.call ci [x0, g vs1 0, g vs1 1, x2]) fun v4 => .op (.bin 0 .add (g vs1 1) (AV.int .i64 20)) fun v5 => .leaf 0 [g vs1 1, v5]) (.leaf 2 [g vs1 0, g vs1 1])) fun t2 vs1 => tsel t2 1 (.leaf 1 vs1) (tsel t2 2 (.op (.call ci [x0, g vs1 0, x1, x2]) fun v6 => .loop [AV.int .i64 20, g vs1 0, g vs1 1] (fun vs7 => .op (.bin 0 .lss (g vs7 0) x1) fun v9 => .ite v9 (.op (.bin 0 .mul (AV.int .i64 2) (g vs7 0)) fun v10 => .loop [AV.int .i64 0, v10] (fun vs11 => .op (.bin 0 .leq (g vs11 1) x1) fun v13 => .ite v13 (.op (.bin 0 .add (g vs11 0) (g vs7 0)) fun v14 => .op (.call cm [x0, g vs11 0, v14, g vs11 1, x2]) fun v15 => .op (.bin 0 .mul (AV.int .i64 2) (g vs7 0)) fun v16 => .op (.bin 0 .add (g vs11 1) v16) fun v17 => .leaf 0 [g vs11 1, v17]) (.leaf 6 [g vs11 0, g vs11 1])) fun t12 vs11 => tsel t12 1 (.leaf 1 vs11) (tsel t12 6 (.op (.bin 0 .add (g vs11 0) (g vs7 0)) fun v18 => .op (.bin 0 .lss v18 x1) fun v19 => .scope (.ite v19 (.op (.call cm [x0, g vs11 0, v18, x1, x2]) fun v20 => .leaf 0 []) (.leaf 0 [])) (fun vs21 => .op (.bin 0 .mul (g vs7 0) (AV.int .i64 2)) fun v23 => .leaf 0 [v23, g vs11 0, g vs11 1]) fun t22 vs21 => tsel t22 1 (.leaf 1 vs21) .bad) .bad)) (.leaf 4 [g vs7 0, g vs7 1, g vs7 2])) fun t8 vs7 => tsel t8 1 (.leaf 1 vs7) (tsel t8 4 (.fin []) .bad)) .bad)

section
variable {α : Type} [Cel α] [SEl α] {P : Program} {n : Nat} {key : α → Int} {U0 : α → Prop}
theorem swr_spec {h : AH} {v : AV} {xs : List α} {F : List Nat} {x4 : AV} (r : SlRep h v xs F) (o : Own n h F) {a b c : Nat} (h1 : a + c ≤ b) (h2 : b + c ≤ xs.length) :
    (pSwr (Cel.w α) (SEl.lo α) v (.int .i64 (a : Int)) (.int .i64 (b : Int)) (.int .i64 (c : Int)) x4).awp P h (MutP n h v F (swr xs a b c)) := by
  have hsm := r.small
  unfold pSwr
  refine aw_upto c (fun i vs h1 => vs = [.int .i64 (i : Int)] ∧ i ≤ c ∧ MutR n h v F (swr xs a b i) h1) ⟨rfl, Nat.zero_le _, MutR.refl r o⟩ ?_
  rintro i vs h1 _ ⟨rfl, hi, k1, F1, p1, r1, o1⟩
  simp only [g0]
  refine aw_lss (fun hlt => aw_ite_t ?_) (fun hge => aw_ite_f ?_)
  · have hl := swr_len xs a b i
    refine aw_addN (a + i) (by omega) (by omega) (aw_addN (b + i) (by omega) (by omega) (aw_addN (b + i) (by omega) (by omega) ?_))
    obtain ⟨x, hx⟩ : ∃ x, (swr xs a b i)[a + i]? = some x := ⟨_, List.getElem?_eq_getElem (by omega)⟩
    obtain ⟨y, hy⟩ : ∃ y, (swr xs a b i)[b + i]? = some y := ⟨_, List.getElem?_eq_getElem (by omega)⟩
    obtain ⟨cx, cy, g1, g2, g3⟩ := aw_two (P := P) r1 o1 hx hy (by omega)
    refine g2 _ _ (aw_addN (a + i) (by omega) (by omega) (g1 _ _ (g3 _ _ fun h' F' k' p' r' o' => ?_)))
    exact aw_inc (by omega) (aw_leaf (aw_nexts ⟨by omega, rfl, by omega, MutR.trans k1 p1 ⟨k', F', p', r', o'⟩⟩))
  · have : i = c := by omega
    subst this
    exact aw_leaf (aw_ends (by decide) (aw_tsel_ne (by decide) (aw_tsel_eq (aw_fin0 ⟨rfl, _, rfl, k1, F1, p1, r1, o1⟩))))

end
section
variable {α : Type} [Cel α] {P : Program} {n : Nat}
/-- The contract of swapRange. -/
def SwrC (α : Type) [Cel α] (P : Program) (cw : FuncId) (c : AV) : Prop := ∀ (n : Nat) (h : AH) (v : AV) (xs : List α) (F : List Nat) (a b m : Nat), SlRep h v xs F → Own n h F → a + m ≤ b → b + m ≤ xs.length → MutC P cw [v, .int .i64 (a : Int), .int .i64 (b : Int), .int .i64 (m : Int), c] n h v F (swr xs a b m)
theorem rot_spec {cw : FuncId} {c : AV} (hw : SwrC α P cw c) {h : AH} {v : AV} {A U V B : List α} {F : List Nat} (r : SlRep h v (A ++ (U ++ (V ++ B))) F) (o : Own n h F) (hU : U ≠ []) (hV : V ≠ []) :
    (pRot cw v (.int .i64 (A.length : Int)) (.int .i64 ((A.length + U.length : Nat) : Int)) (.int .i64 ((A.length + U.length + V.length : Nat) : Int)) c).awp P h (MutP n h v F (A ++ ((V ++ U) ++ B))) := by
  have hsm := r.small
  simp only [List.length_append] at hsm
  have hUl := List.length_pos_iff.2 hU
  have hVl := List.length_pos_iff.2 hV
  unfold pRot
  refine aw_subN U.length (by omega) (by omega) (aw_subN V.length (by omega) (by omega) ?_)
  refine aw_loop (fun N vs h1 => ∃ L A' B' R : List α, vs = [.int .i64 (A'.length : Int), .int .i64 (B'.length : Int)] ∧ N = A'.length + B'.length ∧ 0 < A'.length ∧ 0 < B'.length ∧ L.length + A'.length = U.length ∧ L ++ (B' ++ (A' ++ R)) = V ++ U ∧ MutR n h v F (A ++ (L ++ (A' ++ (B' ++ (R ++ B))))) h1) (U.length + V.length) ⟨[], U, V, [], rfl, rfl, hUl, hVl, by simp, by simp, by simpa using MutR.refl r o⟩ ?_
  rintro N vs h1 ⟨L, A', B', R, rfl, rfl, hA, hB, hm, ht, k1, F1, p1, r1, o1⟩
  have htl := congrArg List.length ht
  simp only [List.length_append] at htl
  simp only [g0, g1]
  refine aw_neq (fun hne => aw_ite_t ?_) (fun heq => aw_ite_f ?_)
  · refine aw_gtr (fun hlt => ?_) (fun hge => ?_)
    · refine aw_scope (aw_ite_t (aw_subN (A.length + L.length) (by omega) (by omega) (aw_call (hw n h1 v _ F1 (A.length + L.length) (A.length + U.length) B'.length r1 o1 (by omega) (by simp only [List.length_append]; omega)) ?_)))
      intro u h2 m2
      refine aw_subN (A'.length - B'.length) (by omega) (by omega) (aw_leaf (aw_nexts (aw_leaf (aw_nexts ?_))))
      have e : A ++ (L ++ (A' ++ (B' ++ (R ++ B)))) = (A ++ L) ++ (A'.take B'.length ++ (A'.drop B'.length ++ (B' ++ (R ++ B)))) := by
        rw [← List.append_assoc (A'.take _), List.take_append_drop]; simp only [List.append_assoc]
      rw [e, swr_blk (by simp) (by simp; omega) rfl (by simp; omega)] at m2
      refine ⟨(A'.drop B'.length).length + (A'.take B'.length).length, by simp; omega, L ++ B', A'.drop B'.length, A'.take B'.length, R, ?_, rfl, by simp; omega, by simp; omega, by simp; omega, ?_, ?_⟩
      · simp only [g0, g1, List.length_drop, List.length_take, Nat.min_eq_left (show B'.length ≤ A'.length by omega)]
      · rw [← ht, ← List.append_assoc (A'.take _), List.take_append_drop]; simp
      · simpa only [List.append_assoc] using MutR.trans k1 p1 m2
    · refine aw_scope (aw_ite_f (aw_subN (A.length + L.length) (by omega) (by omega) (aw_addN (A.length + U.length + B'.length) (by omega) (by omega) (aw_subN (A.length + U.length + B'.length - A'.length) (by omega) (by omega) (aw_call (hw n h1 v _ F1 (A.length + L.length) (A.length + U.length + B'.length - A'.length) A'.length r1 o1 (by omega) (by simp only [List.length_append]; omega)) ?_)))))
      intro u h2 m2
      refine aw_subN (B'.length - A'.length) (by omega) (by omega) (aw_leaf (aw_nexts (aw_leaf (aw_nexts ?_))))
      have e : A ++ (L ++ (A' ++ (B' ++ (R ++ B)))) = (A ++ L) ++ (A' ++ (B'.take (B'.length - A'.length) ++ (B'.drop (B'.length - A'.length) ++ (R ++ B)))) := by
        rw [← List.append_assoc (B'.take _), List.take_append_drop]; simp only [List.append_assoc]
      rw [e, swr_blk (by simp) rfl (by simp; omega) (by simp; omega)] at m2
      refine ⟨(B'.drop (B'.length - A'.length)).length + (B'.take (B'.length - A'.length)).length, by simp; omega, L, B'.drop (B'.length - A'.length), B'.take (B'.length - A'.length), A' ++ R, ?_, rfl, by simp; omega, by simp; omega, by simp; omega, ?_, ?_⟩
      · simp only [g0, g1, List.length_drop, List.length_take, Nat.min_eq_left (show B'.length - A'.length ≤ B'.length by omega)]
        rw [show B'.length - (B'.length - A'.length) = A'.length by omega]
      · rw [← ht, ← List.append_assoc (B'.take _), List.take_append_drop]
      · simpa only [List.append_assoc] using MutR.trans k1 p1 m2
  · refine aw_leaf (aw_ends (by decide) (aw_tsel_ne (by decide) (aw_tsel_eq ?_)))
    simp only [g0]
    refine aw_subN (A.length + L.length) (by omega) (by omega) (aw_call (hw n h1 v _ F1 (A.length + L.length) (A.length + U.length) A'.length r1 o1 (by omega) (by simp only [List.length_append]; omega)) ?_)
    intro u h2 m2
    have e : A ++ (L ++ (A' ++ (B' ++ (R ++ B)))) = (A ++ L) ++ (A' ++ ([] ++ (B' ++ (R ++ B)))) := by simp
    rw [e, swr_blk (by simp) rfl (by omega) (by simp; omega)] at m2
    refine aw_fin0 ⟨rfl, _, rfl, ?_⟩
    have m3 := MutR.trans k1 p1 m2
    have e2 : (A ++ L) ++ (B' ++ ([] ++ (A' ++ (R ++ B)))) = A ++ ((V ++ U) ++ B) := by rw [← ht]; simp
    rw [e2] at m3; exact m3

end
section
variable {α : Type} [Cel α] [SEl α] {P : Program} {n : Nat} {key : α → Int} {U0 : α → Prop}
theorem ins_spec {c : AV} {h : AH} {v : AV} {A U B : List α} {F : List Nat} (r : SlRep h v (A ++ (U ++ B)) F) (o : Own n h F) (hc : CmpOk P key U0 h F c) (hu : ∀ x ∈ U, U0 x) :
    (pIns (Cel.w α) (SEl.lo α) v (.int .i64 (A.length : Int)) (.int .i64 ((A.length + U.length : Nat) : Int)) c).awp P h (MutP n h v F (A ++ (ssort key U ++ B))) := by
  have hsm := r.small
  simp only [List.length_append] at hsm
  obtain ⟨f, caps, rfl, hc⟩ := hc
  unfold pIns
  refine aw_addN (A.length + 1) (by omega) (by omega) ?_
  refine aw_upto U.length (fun i vs h1 => ∃ w, vs = [.int .i64 ((A.length + 1 + i : Nat) : Int), w] ∧ (i = 0 ∨ i + 1 ≤ U.length) ∧ MutR n h v F (A ++ (ssort key (U.take (i + 1)) ++ (U.drop (i + 1) ++ B))) h1) ⟨.tup [], by simp, .inl rfl, ?_⟩ ?_
  · rw [ssort_of]
    · rw [← List.append_assoc (U.take 1), List.take_append_drop]; exact MutR.refl r o
    · cases U with
      | nil => exact List.Pairwise.nil
      | cons x U => exact List.pairwise_singleton _ _
  rintro i vs h1 _ ⟨w, rfl, hi, k1, F1, p1, r1, o1⟩
  simp only [g0, g1]
  refine aw_lss (fun hlt => aw_ite_t ?_) (fun hge => aw_ite_f ?_)
  · obtain ⟨u, hu1, hd, htk⟩ := drop_step (show i + 1 < U.length by omega)
    have hss : (ssort key (U.take (i + 1))).length = i + 1 := by rw [ssort_len]; simp; omega
    have hsr : Srt key (ssort key (U.take (i + 1))) := ssort_srt
    refine aw_loop (fun N vs h2 => ∃ X Y : List α, vs = [.int .i64 ((A.length + X.length : Nat) : Int)] ∧ N = X.length ∧ X ++ Y = ssort key (U.take (i + 1)) ∧ (∀ y ∈ Y, key u < key y) ∧ MutR n h v F (A ++ (X ++ u :: (Y ++ (U.drop (i + 1 + 1) ++ B)))) h2) (i + 1) ⟨ssort key (U.take (i + 1)), [], ?_, hss.symm, by simp, by simp, ?_⟩ ?_
    · rw [hss]; congr 3; omega
    · rw [hd] at r1
      exact ⟨k1, F1, p1, by simpa using r1, o1⟩
    rintro N vs h2 ⟨X, Y, rfl, rfl, hXY, hY, k2, F2, p2, r2, o2⟩
    have hl := congrArg List.length hXY
    rw [List.length_append, hss] at hl
    simp only [g0]
    have fin : (∀ x ∈ X, key x ≤ key u) → A ++ (X ++ u :: (Y ++ (U.drop (i + 1 + 1) ++ B))) = A ++ (ssort key (U.take (i + 1 + 1)) ++ (U.drop (i + 1 + 1) ++ B)) := fun hX => by
      rw [htk, ssort_snoc, ← hXY, ins_mid hX hY]; simp
    refine aw_gtr (fun hgt => ?_) (fun hle => ?_)
    · obtain ⟨X', x, rfl⟩ := snoc_of (U := X) (by omega)
      simp only [List.length_append, List.length_singleton] at hl hgt ⊢
      have hu2 : (A ++ ((X' ++ [x]) ++ u :: (Y ++ (U.drop (i + 1 + 1) ++ B))))[A.length + (X'.length + 1)]? = some u := by
        rw [List.getElem?_append_right (by omega), List.getElem?_append_right (by simp), show A.length + (X'.length + 1) - A.length - (X' ++ [x]).length = 0 by simp <;> omega]; rfl
      have hx2 : (A ++ ((X' ++ [x]) ++ u :: (Y ++ (U.drop (i + 1 + 1) ++ B))))[A.length + X'.length]? = some x := by
        rw [List.getElem?_append_right (by omega), List.getElem?_append_left (by simp), List.getElem?_append_right (by omega), show A.length + X'.length - A.length - X'.length = 0 by omega]; rfl
      have hxm : x ∈ U := by
        have : x ∈ ssort key (U.take (i + 1)) := by rw [← hXY]; simp
        exact List.mem_of_mem_take (ssort_mem.1 this)
      refine aw_gop_tt (aw_mv (aw_gop_tt (aw_mv (aw_gop_tt (aw_mv (aw_gop_tt ?_))))))
      refine aw_idx r2 hu2 rfl fun b1 o1' cu Fu au ru _ => aw_gop_tt (SEl.ld au ru (aw_gop_tt (aw_mv (aw_gop_tt (aw_mv (aw_gop_tt (aw_subN (A.length + X'.length) (by omega) (by omega) (aw_gop_tt ?_))))))))
      refine aw_idx r2 hx2 rfl fun b2 o2' cx Fx ax rx _ => aw_gop_tt (SEl.ld ax rx (aw_gop_tt ?_))
      refine aw_rcallv (hc h2 k2 u x cu cx Fu Fx (hu u (List.mem_of_getElem? hu1)) (hu x hxm) ru rx) (aw_gop_tt ?_)
      refine aw_lss (fun hneg => ?_) (fun hnn => ?_)
      · have hlt2 := cmpI_lt.1 hneg
        refine aw_pick_t (aw_ite_t (aw_subN (A.length + X'.length) (by omega) (by omega) (aw_subN (A.length + X'.length) (by omega) (by omega) ?_)))
        obtain ⟨c1, c2, g1, g2, g3⟩ := aw_two (P := P) r2 o2 hu2 hx2 (by omega)
        refine g2 _ _ (g1 _ _ (g3 _ _ fun h' F' k' p' r' o' => ?_))
        refine aw_subN (A.length + X'.length) (by omega) (by omega) (aw_leaf (aw_nexts ⟨X'.length, by simp, X', x :: Y, rfl, rfl, by rw [← hXY]; simp, fun y hy => ?_, ?_⟩))
        · rcases List.mem_cons.1 hy with e | e
          · rw [e]; exact hlt2
          · exact hY y e
        · have e : A ++ ((X' ++ [x]) ++ u :: (Y ++ (U.drop (i + 1 + 1) ++ B))) = (A ++ X') ++ x :: ([] ++ u :: (Y ++ (U.drop (i + 1 + 1) ++ B))) := by simp
          rw [e, swp_eq' (by simp) (by simp; omega)] at r'
          have := MutR.trans k2 p2 ⟨k', F', p', r', o'⟩
          simpa using this
      · have hge2 : ¬ key u < key x := fun hlt => hnn (cmpI_lt.2 hlt)
        refine aw_pick_t (aw_ite_f (aw_leaf (aw_ends (by decide) (aw_tsel_ne (by decide) (aw_tsel_eq ?_)))))
        refine aw_inc (by omega) (aw_leaf (aw_nexts ⟨by omega, _, rfl, by omega, ?_⟩))
        rw [← fin fun z hz => ?_]
        · exact ⟨k2, F2, p2, r2, o2⟩
        · rw [← hXY] at hsr
          rcases List.mem_append.1 hz with hz | hz
          · have := hsr.l.lr z hz x (by simp); omega
          · rw [List.mem_singleton.1 hz]; omega
    · have hX : X = [] := List.length_eq_zero_iff.1 (by omega)
      subst hX
      iterate 12 refine aw_gop_ft ?_
      refine aw_pick_f (aw_ite_f (aw_leaf (aw_ends (by decide) (aw_tsel_ne (by decide) (aw_tsel_eq ?_)))))
      refine aw_inc (by omega) (aw_leaf (aw_nexts ⟨by omega, _, rfl, by omega, ?_⟩))
      rw [← fin (by simp)]
      exact ⟨k2, F2, p2, r2, o2⟩
  · refine aw_leaf (aw_ends (by decide) (aw_tsel_ne (by decide) (aw_tsel_eq (aw_fin0 ⟨rfl, _, rfl, ?_⟩))))
    rw [List.take_of_length_le (by omega), List.drop_of_length_le (by omega)] at r1
    exact ⟨k1, F1, p1, by simpa using r1, o1⟩
end
end Go.Ab
