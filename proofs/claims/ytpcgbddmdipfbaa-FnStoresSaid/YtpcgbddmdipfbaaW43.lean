/- What is drawn: bytes, numbers. -/
import Derived.Test.YtpcgbddmdipfbaaAb52
import Derived.Test.YtpcgbddmdipfbaaNm
set_option linter.unusedSimpArgs false
set_option linter.unusedVariables false
set_option maxHeartbeats 2000000
namespace Go.Proofs.Ytpcgbddmdipfbaa
open Go Go.Ab
section
/- spec.l1New -/
def p_spec_l1New (x0 : AV) : Prog := .op (.len 0 x0) fun v1 => .op (.bin 0 .add (AV.int .i64 140371) v1) fun v2 => .loop [v2, AV.int .i64 0] (fun vs3 => .op (.len 0 x0) fun v5 => .op (.bin 0 .lss (g vs3 1) v5) fun v6 => .gop v6 true (.mv (g vs3 1)) fun v7 => .gop v6 true (.bin 0 .lss v7 (AV.int .i64 4000)) fun v8 => .op (.pick v6 v8 (AV.bool false)) fun v9 => .ite v9 (.op (.bin 0 .mul (g vs3 0) (AV.int .i64 137)) fun v10 => .op (.idx 1 x0 (g vs3 1)) fun v11 => .op (.ld1 v11) fun v12 => .op (.conv .i64 v12) fun v13 => .op (.bin 0 .add v10 v13) fun v14 => .op (.bin 0 .add v14 (AV.int .i64 11)) fun v15 => .op (.bin 0 .and v15 (AV.int .i64 1073741823)) fun v16 => .op (.bin 0 .add (g vs3 1) (AV.int .i64 1)) fun v17 => .leaf 0 [v16, v17]) (.leaf 2 [g vs3 0, g vs3 1])) fun t4 vs3 => tsel t4 1 (.leaf 1 vs3) (tsel t4 2 (.op (.build [AV.nils, AV.int .i64 0, AV.int .i64 0] [(0, 1, x0), (2, 1, g vs3 0)]) fun v18 => .op (.box v18) fun v19 => .fin [.val v19]) .bad)
theorem c_spec_l1New (x0 : AV) : CC Try.prog n_spec_l1New [x0] (p_spec_l1New x0) := cc Try.func145 [0, 3, 4] (fun _ => []) (by kernel_rfl)
/- spec.l1Byte -/
def p_spec_l1Byte (x0 : AV) : Prog := .op (.nilck x0) fun v1 => .op (.fad 2 v1) fun v2 => .op (.ld1 v2) fun v3 => .op (.bin 0 .mul v3 (AV.int .i64 6364136223846793005)) fun v4 => .op (.bin 0 .add v4 (AV.int .i64 1442695040888963407)) fun v5 => .op (.nilck x0) fun v6 => .op (.fad 2 v6) fun v7 => .op (.st 1 v7 v5) fun v8 => .op (.nilck x0) fun v9 => .op (.fad 2 v9) fun v10 => .op (.ld1 v10) fun v11 => .op (.bin 0 .shr v11 (AV.int .u64 33)) fun v12 => .op (.nilck x0) fun v13 => .op (.fad 2 v13) fun v14 => .op (.ld1 v14) fun v15 => .op (.bin 0 .shr v15 (AV.int .u64 47)) fun v16 => .op (.bin 0 .xor v12 v16) fun v17 => .op (.bin 0 .and v17 (AV.int .i64 255)) fun v18 => .op (.nilck x0) fun v19 => .op (.fad 1 v19) fun v20 => .op (.ld1 v20) fun v21 => .op (.nilck x0) fun v22 => .op (.fad 0 v22) fun v23 => .op (.ld1 v23) fun v24 => .op (.len 0 v24) fun v25 => .op (.bin 0 .lss v21 v25) fun v26 => .scope (.ite v26 (.op (.nilck x0) fun v27 => .op (.fad 0 v27) fun v28 => .op (.ld1 v28) fun v29 => .op (.nilck x0) fun v30 => .op (.fad 1 v30) fun v31 => .op (.ld1 v31) fun v32 => .op (.idx 1 v29 v32) fun v33 => .op (.ld1 v33) fun v34 => .op (.conv .i64 v34) fun v35 => .op (.bin 0 .add v18 v35) fun v36 => .op (.bin 0 .and v36 (AV.int .i64 255)) fun v37 => .op (.nilck x0) fun v38 => .op (.fad 1 v38) fun v39 => .op (.ld1 v39) fun v40 => .op (.bin 0 .add v40 (AV.int .i64 1)) fun v41 => .op (.nilck x0) fun v42 => .op (.fad 1 v42) fun v43 => .op (.st 1 v43 v41) fun v44 => .leaf 0 [v37]) (.leaf 0 [v18])) (fun vs45 => .fin [.val (g vs45 0)]) fun t46 vs45 => tsel t46 1 (.leaf 1 vs45) .bad
theorem c_spec_l1Byte (x0 : AV) : CC Try.prog n_spec_l1Byte [x0] (p_spec_l1Byte x0) := cc Try.func199 [3] (fun r => if r = 2 then [(0, []), (1, []), (2, []), (3, []), (4, []), (5, []), (6, []), (7, []), (8, []), (9, []), (10, []), (11, []), (12, [])] else if r = 3 then [(0, []), (1, []), (2, []), (3, []), (4, []), (5, []), (6, []), (7, []), (8, []), (9, [])] else if r = 4 then [(0, []), (1, []), (2, []), (3, []), (4, []), (5, []), (6, []), (7, []), (8, []), (9, []), (10, []), (11, []), (12, []), (13, []), (14, [])] else []) (by kernel_rfl)
/- spec.l1Below -/
def p_spec_l1Below (x0 x1 : AV) : Prog := .op (.bin 0 .leq x1 (AV.int .i64 0)) fun v1 => .ite v1 (.fin [.val (AV.int .i64 0)]) (.op (.bin 0 .leq x1 (AV.int .i64 256)) fun v2 => .ite v2 (.op (.call n_spec_l1Byte [x0]) fun v3 => .op (.bin 0 .rem v3 x1) fun v4 => .fin [.val v4]) (.op (.call n_spec_l1Byte [x0]) fun v5 => .op (.call n_spec_l1Byte [x0]) fun v6 => .op (.call n_spec_l1Byte [x0]) fun v7 => .op (.bin 0 .mul v5 (AV.int .i64 65536)) fun v8 => .op (.bin 0 .mul v6 (AV.int .i64 256)) fun v9 => .op (.bin 0 .add v8 v9) fun v10 => .op (.bin 0 .add v10 v7) fun v11 => .op (.bin 0 .rem v11 x1) fun v12 => .fin [.val v12]))
theorem c_spec_l1Below (x0 x1 : AV) : CC Try.prog n_spec_l1Below [x0, x1] (p_spec_l1Below x0 x1) := cc Try.func147 [] (fun _ => []) (by kernel_rfl)
/- spec.l1Once -/
def p_spec_l1Once (x0 x1 : AV) : Prog := .op (.call n_spec_l1Below [x0, x1]) fun v1 => .op (.bin 0 .eql v1 (AV.int .i64 0)) fun v2 => .fin [.val v2]
theorem c_spec_l1Once (x0 x1 : AV) : CC Try.prog n_spec_l1Once [x0, x1] (p_spec_l1Once x0 x1) := cc Try.func148 [] (fun _ => []) (by kernel_rfl)
/- spec.l1Int -/
def p_spec_l1Int (x0 x1 : AV) : Prog := .op (.len 0 x1) fun v1 => .op (.call n_spec_l1Below [x0, v1]) fun v2 => .op (.idx 1 x1 v2) fun v3 => .op (.ld1 v3) fun v4 => .fin [.val v4]
theorem c_spec_l1Int (x0 x1 : AV) : CC Try.prog n_spec_l1Int [x0, x1] (p_spec_l1Int x0 x1) := cc Try.func198 [] (fun _ => []) (by kernel_rfl)
/- spec.l1Str -/
def p_spec_l1Str (x0 x1 : AV) : Prog := .op (.len 0 x1) fun v1 => .op (.call n_spec_l1Below [x0, v1]) fun v2 => .op (.idx 1 x1 v2) fun v3 => .op (.ld1 v3) fun v4 => .fin [.val v4]
theorem c_spec_l1Str (x0 x1 : AV) : CC Try.prog n_spec_l1Str [x0, x1] (p_spec_l1Str x0 x1) := cc Try.func221 [] (fun _ => []) (by kernel_rfl)
end
/-- What a new cursor is. -/
def NewC (h : AH) : AV → AH → Prop := fun u h' => ∃ c, u = .ptr c 0 ∧ Ext h h' ∧ h.n ≤ c ∧ Cur h' c
set_option maxRecDepth 20000 in
theorem s_spec_l1New {h : AH} {l : List UInt8} {v : AV} {F : List Nat} (hs : l.length ≤ 1048576) (r : SlRep h v l F) : ACalls Try.prog n_spec_l1New [v] h (NewC h) := by
  refine c_spec_l1New _ ?_
  unfold p_spec_l1New
  (repeat' first|refine vs ?_|(refine br ?_ ?_<;>intro _<;>try(exfalso;first|omega|contradiction))|((with_reducible refine g_idx ?_);((first|refine ix ?_|refine ixi ?_|(refine ixg ?_;intro _ _)|(refine ixgi ?_;intro _ _));first|rintro _ _ _ _ _ ⟨rfl,rfl⟩ _|rintro _ _ _ _ _ ⟨_,rfl,_⟩ _|rintro _ _ _ _ _ ⟨_,_,_,_,rfl,rfl,_,_⟩ _|intro _ _ _ _ _ _ _))|(refine sx ?_;intro _ _)|((with_reducible refine g_awp ?_);simp only [g0,g1,g2]))
  refine aw_upto l.length (fun i vs h1 => ∃ z : Int, vs = [.int .i64 z, .int .i64 (i : Int)] ∧ i ≤ l.length ∧ h1 = h) ⟨_, rfl, Nat.zero_le _, rfl⟩ ?_
  rintro i vs h1 _ ⟨z, rfl, hi, rfl⟩
  simp only [g0, g1]
  have fin : ∀ z : Int, NewC h1 (.ptr h1.n 0) (h1.push ⟨[v, .int .i64 0, .int .i64 z], 0, 0⟩) := fun z => ⟨_, rfl, ext_auto, by omega, _, _, _, _, _, bk_push, slr_auto, fun b hb => r.lt b hb, by omega, by omega⟩
  refine vs ?_
  refine br (fun q1 => ?_) (fun q1 => ?_)
  · refine vs ?_
    refine aw_lss (fun q2 => ?_) (fun q2 => ?_)
    · refine vs ?_
      refine aw_mulw ?_
      obtain ⟨x, hx, -, -⟩ := drop_step (show i < l.length by omega)
      refine aw_idx r hx rfl ?_
      rintro b o _ Fi a ⟨rfl, -⟩ _
      refine vs ?_
      refine aw_addw ?_
      refine aw_addw ?_
      refine aw_and (by omega) (by omega) fun y _ _ => ?_
      refine vs ?_
      exact ⟨by omega, _, rfl, by omega, rfl⟩
    · refine vs ?_
      exact ⟨rfl, _, rfl, fin _⟩
  · refine vs ?_
    exact ⟨rfl, _, rfl, fin _⟩
theorem s_spec_l1Byte {h : AH} {c : Nat} (cu : Cur h c) : ACalls Try.prog n_spec_l1Byte [.ptr c 0] h (DrI h c 0 256) := by
  obtain ⟨l, vb, F, i, z, bk, r, lt, i0, i1⟩ := cu
  refine c_spec_l1Byte _ ?_
  unfold p_spec_l1Byte
  have nF : c ∉ F := fun hm => by have := lt c hm; omega
  have hsm := r.small
  have lc := bk.1
  refine aw_nilck ?_
  (repeat' first|refine vs ?_|(refine br ?_ ?_<;>intro _<;>try(exfalso;first|omega|contradiction))|((with_reducible refine g_idx ?_);((first|refine ix ?_|refine ixi ?_|(refine ixg ?_;intro _ _)|(refine ixgi ?_;intro _ _));first|rintro _ _ _ _ _ ⟨rfl,rfl⟩ _|rintro _ _ _ _ _ ⟨_,rfl,_⟩ _|rintro _ _ _ _ _ ⟨_,_,_,_,rfl,rfl,_,_⟩ _|intro _ _ _ _ _ _ _))|(refine sx ?_;intro _ _)|((with_reducible refine g_awp ?_);simp only [g0,g1,g2]))
  refine aw_mulw (aw_addw (aw_nilck ?_))
  (repeat' first|refine vs ?_|(refine br ?_ ?_<;>intro _<;>try(exfalso;first|omega|contradiction))|((with_reducible refine g_idx ?_);((first|refine ix ?_|refine ixi ?_|(refine ixg ?_;intro _ _)|(refine ixgi ?_;intro _ _));first|rintro _ _ _ _ _ ⟨rfl,rfl⟩ _|rintro _ _ _ _ _ ⟨_,rfl,_⟩ _|rintro _ _ _ _ _ ⟨_,_,_,_,rfl,rfl,_,_⟩ _|intro _ _ _ _ _ _ _))|(refine sx ?_;intro _ _)|((with_reducible refine g_awp ?_);simp only [g0,g1,g2]))
  refine aw_nilck ?_
  (repeat' first|refine vs ?_|(refine br ?_ ?_<;>intro _<;>try(exfalso;first|omega|contradiction))|((with_reducible refine g_idx ?_);((first|refine ix ?_|refine ixi ?_|(refine ixg ?_;intro _ _)|(refine ixgi ?_;intro _ _));first|rintro _ _ _ _ _ ⟨rfl,rfl⟩ _|rintro _ _ _ _ _ ⟨_,rfl,_⟩ _|rintro _ _ _ _ _ ⟨_,_,_,_,rfl,rfl,_,_⟩ _|intro _ _ _ _ _ _ _))|(refine sx ?_;intro _ _)|((with_reducible refine g_awp ?_);simp only [g0,g1,g2]))
  refine aw_shr (by decide) fun x1 => aw_nilck ?_
  (repeat' first|refine vs ?_|(refine br ?_ ?_<;>intro _<;>try(exfalso;first|omega|contradiction))|((with_reducible refine g_idx ?_);((first|refine ix ?_|refine ixi ?_|(refine ixg ?_;intro _ _)|(refine ixgi ?_;intro _ _));first|rintro _ _ _ _ _ ⟨rfl,rfl⟩ _|rintro _ _ _ _ _ ⟨_,rfl,_⟩ _|rintro _ _ _ _ _ ⟨_,_,_,_,rfl,rfl,_,_⟩ _|intro _ _ _ _ _ _ _))|(refine sx ?_;intro _ _)|((with_reducible refine g_awp ?_);simp only [g0,g1,g2]))
  refine aw_shr (by decide) fun x2 => aw_xor fun x3 => aw_and (by omega) (by omega) fun x h0 h1 => aw_nilck ?_
  (repeat' first|refine vs ?_|(refine br ?_ ?_<;>intro _<;>try(exfalso;first|omega|contradiction))|((with_reducible refine g_idx ?_);((first|refine ix ?_|refine ixi ?_|(refine ixg ?_;intro _ _)|(refine ixgi ?_;intro _ _));first|rintro _ _ _ _ _ ⟨rfl,rfl⟩ _|rintro _ _ _ _ _ ⟨_,rfl,_⟩ _|rintro _ _ _ _ _ ⟨_,_,_,_,rfl,rfl,_,_⟩ _|intro _ _ _ _ _ _ _))|(refine sx ?_;intro _ _)|((with_reducible refine g_awp ?_);simp only [g0,g1,g2]))
  refine aw_nilck ?_
  (repeat' first|refine vs ?_|(refine br ?_ ?_<;>intro _<;>try(exfalso;first|omega|contradiction))|((with_reducible refine g_idx ?_);((first|refine ix ?_|refine ixi ?_|(refine ixg ?_;intro _ _)|(refine ixgi ?_;intro _ _));first|rintro _ _ _ _ _ ⟨rfl,rfl⟩ _|rintro _ _ _ _ _ ⟨_,rfl,_⟩ _|rintro _ _ _ _ _ ⟨_,_,_,_,rfl,rfl,_,_⟩ _|intro _ _ _ _ _ _ _))|(refine sx ?_;intro _ _)|((with_reducible refine g_awp ?_);simp only [g0,g1,g2]))
  · refine aw_nilck ?_
    refine vs ?_
    refine aw_nilck ?_
    refine vs ?_
    obtain ⟨i, rfl⟩ : ∃ j : Nat, i = (j : Int) := ⟨i.toNat, by omega⟩
    obtain ⟨y, hy, -, -⟩ := drop_step (show i < l.length by omega)
    have hyl : y.toNat < 256 := y.toNat_lt
    refine aw_idx (slr_upd1 (k := ⟨[vb, .int .i64 (i : Int), .int .i64 (IntKind.i64.wrap (IntKind.i64.wrap (z * 6364136223846793005) + 1442695040888963407))], 0, 0⟩) r nF) hy rfl ?_
    rintro b o _ Fi a ⟨rfl, -⟩ _
    refine vs ?_
    refine aw_and (by omega) (by omega) fun x' h0' h1' => aw_nilck ?_
    refine vs ?_
    refine aw_nilck ?_
    refine vs ?_
    exact ⟨rfl, _, rfl, x', rfl, h0', by omega, ((Kp.refl _ _).updX (by simp) _).updX (by simp) _, l, vb, F, _, _, bk_upd (by simpa using lc), slr_upd1 (slr_upd1 r nF) nF, lt, by omega, by omega⟩
  · exact ⟨rfl, _, rfl, x, rfl, h0, by omega, (Kp.refl _ _).updX (by simp) _, l, vb, F, _, _, bk_upd lc, slr_upd1 r nF, lt, by omega, by omega⟩
theorem s_spec_l1Below {h : AH} {c : Nat} {n : Int} (cu : Cur h c) (h0 : 0 < n) (h1 : n < 281474976710656) : ACalls Try.prog n_spec_l1Below [.ptr c 0, .int .i64 n] h (DrI h c 0 n) := by
  refine c_spec_l1Below _ _ ?_
  unfold p_spec_l1Below
  have rem : ∀ {a : Int}, 0 ≤ a → 0 ≤ a.tmod n ∧ a.tmod n < n := fun h => ⟨Int.tmod_nonneg _ h, Int.tmod_lt_of_pos _ h0⟩
  (repeat' first|refine vs ?_|(with_reducible refine aw_rem (by omega) ?_)|(with_reducible refine aw_muln (by omega) (by omega) ?_)|(refine br ?_ ?_<;>intro _<;>try(exfalso;first|omega|contradiction))|((with_reducible refine g_callf n_spec_l1Byte ?_);(refine aw_call (s_spec_l1Byte cur_auto) ?_; rintro _ h2 ⟨x, rfl, hx0, hx1, k2, cu2⟩; have n2 := k2.1;))|((with_reducible refine g_idx ?_);((first|refine ix ?_|refine ixi ?_|(refine ixg ?_;intro _ _)|(refine ixgi ?_;intro _ _));first|rintro _ _ _ _ _ ⟨rfl,rfl⟩ _|rintro _ _ _ _ _ ⟨_,rfl,_⟩ _|rintro _ _ _ _ _ ⟨_,_,_,_,rfl,rfl,_,_⟩ _|intro _ _ _ _ _ _ _))|(refine sx ?_;intro _ _)|((with_reducible refine g_awp ?_);simp only [g0,g1,g2]))
  · have := rem (a := x) (by omega)
    exact ⟨rfl, _, rfl, _, rfl, this.1, this.2, by assumption, by assumption⟩
  · rename_i x1 _ _ _ _ _ _ x2 _ _ _ _ _
    have := rem (a := x1 * 65536 + x2 * 256 + x) (by omega)
    exact ⟨rfl, _, rfl, _, rfl, this.1, this.2, kp_auto, by assumption⟩
theorem s_spec_l1Once {h : AH} {c : Nat} {n : Int} (cu : Cur h c) (h0 : 0 < n) (h1 : n < 281474976710656) : ACalls Try.prog n_spec_l1Once [.ptr c 0, .int .i64 n] h (DrB h c) := by
  refine c_spec_l1Once _ _ ?_
  unfold p_spec_l1Once
  refine aw_call (s_spec_l1Below cu h0 h1) ?_
  rintro _ h2 ⟨x, rfl, hx0, hx1, k2, cu2⟩
  (repeat' first|refine vs ?_|(refine br ?_ ?_<;>intro _<;>try(exfalso;first|omega|contradiction))|((with_reducible refine g_idx ?_);((first|refine ix ?_|refine ixi ?_|(refine ixg ?_;intro _ _)|(refine ixgi ?_;intro _ _));first|rintro _ _ _ _ _ ⟨rfl,rfl⟩ _|rintro _ _ _ _ _ ⟨_,rfl,_⟩ _|rintro _ _ _ _ _ ⟨_,_,_,_,rfl,rfl,_,_⟩ _|intro _ _ _ _ _ _ _))|(refine sx ?_;intro _ _)|((with_reducible refine g_awp ?_);simp only [g0,g1,g2]))
  all_goals exact ⟨rfl, _, rfl, _, rfl, k2, cu2⟩
theorem s0_spec_l1Int {h : AH} {c : Nat} {l : List Int} {v : AV} {F : List Nat} (cu : Cur h c) (r : SlRep h v l F) (hF : c ∉ F) (hl : 0 < l.length) : ACalls Try.prog n_spec_l1Int [.ptr c 0, v] h (fun u h' => ∃ x : Int, u = .int .i64 x ∧ x ∈ l ∧ Kp h h' [c] ∧ Cur h' c) := by
  have hsm := r.small
  refine c_spec_l1Int _ _ ?_
  unfold p_spec_l1Int
  refine aw_len r ?_
  refine aw_call (s_spec_l1Below cu (by omega) (by omega)) ?_
  rintro _ h2 ⟨x, rfl, hx0, hx1, k2, cu2⟩
  obtain ⟨x, rfl⟩ : ∃ j : Nat, x = (j : Int) := ⟨x.toNat, by omega⟩
  obtain ⟨y, hy, -, -⟩ := drop_step (show x < l.length by omega)
  refine aw_idx (slr_kp1 k2 r (dis_one hF)) hy rfl ?_
  rintro b o _ Fi a ⟨rfl, -⟩ _
  (repeat' first|refine vs ?_|(refine br ?_ ?_<;>intro _<;>try(exfalso;first|omega|contradiction))|((with_reducible refine g_idx ?_);((first|refine ix ?_|refine ixi ?_|(refine ixg ?_;intro _ _)|(refine ixgi ?_;intro _ _));first|rintro _ _ _ _ _ ⟨rfl,rfl⟩ _|rintro _ _ _ _ _ ⟨_,rfl,_⟩ _|rintro _ _ _ _ _ ⟨_,_,_,_,rfl,rfl,_,_⟩ _|intro _ _ _ _ _ _ _))|(refine sx ?_;intro _ _)|((with_reducible refine g_awp ?_);simp only [g0,g1,g2]))
  exact ⟨rfl, _, rfl, y, rfl, List.mem_of_getElem? hy, k2, cu2⟩
theorem s0_spec_l1Str {h : AH} {c : Nat} {l : List ByteArray} {v : AV} {F : List Nat} (cu : Cur h c) (r : SlRep h v l F) (hF : c ∉ F) (hl : 0 < l.length) : ACalls Try.prog n_spec_l1Str [.ptr c 0, v] h (fun u h' => ∃ x : ByteArray, u = .str x ∧ x ∈ l ∧ Kp h h' [c] ∧ Cur h' c) := by
  have hsm := r.small
  refine c_spec_l1Str _ _ ?_
  unfold p_spec_l1Str
  refine aw_len r ?_
  refine aw_call (s_spec_l1Below cu (by omega) (by omega)) ?_
  rintro _ h2 ⟨x, rfl, hx0, hx1, k2, cu2⟩
  obtain ⟨x, rfl⟩ : ∃ j : Nat, x = (j : Int) := ⟨x.toNat, by omega⟩
  obtain ⟨y, hy, -, -⟩ := drop_step (show x < l.length by omega)
  refine aw_idx (slr_kp1 k2 r (dis_one hF)) hy rfl ?_
  rintro b o _ Fi a ⟨rfl, -⟩ _
  (repeat' first|refine vs ?_|(refine br ?_ ?_<;>intro _<;>try(exfalso;first|omega|contradiction))|((with_reducible refine g_idx ?_);((first|refine ix ?_|refine ixi ?_|(refine ixg ?_;intro _ _)|(refine ixgi ?_;intro _ _));first|rintro _ _ _ _ _ ⟨rfl,rfl⟩ _|rintro _ _ _ _ _ ⟨_,rfl,_⟩ _|rintro _ _ _ _ _ ⟨_,_,_,_,rfl,rfl,_,_⟩ _|intro _ _ _ _ _ _ _))|(refine sx ?_;intro _ _)|((with_reducible refine g_awp ?_);simp only [g0,g1,g2]))
  exact ⟨rfl, _, rfl, y, rfl, List.mem_of_getElem? hy, k2, cu2⟩
def IV (x : AV) : Prop := ∃ i : Int, x = .int .i64 i ∧ -1000000 ≤ i ∧ i ≤ 1000000
def IS (x : AV) : Prop := ∃ s : ByteArray, x = .str s ∧ s.size ≤ 50
theorem iv_nil : ∀ x ∈ ([] : List AV), IV x := fun _ h => absurd h List.not_mem_nil
theorem iv_cons {i : Int} {cs : List AV} (h0 : -1000000 ≤ i) (h1 : i ≤ 1000000) (h : ∀ x ∈ cs, IV x) : ∀ x ∈ AV.int .i64 i :: cs, IV x := List.forall_mem_cons.2 ⟨⟨i, rfl, h0, h1⟩, h⟩
theorem is_nil : ∀ x ∈ ([] : List AV), IS x := fun _ h => absurd h List.not_mem_nil
theorem is_cons {s : ByteArray} {cs : List AV} (h1 : s.size ≤ 50) (h : ∀ x ∈ cs, IS x) : ∀ x ∈ AV.str s :: cs, IS x := List.forall_mem_cons.2 ⟨⟨s, rfl, h1⟩, h⟩
theorem iv_auto {cs : List AV} (h : ∀ x ∈ cs, IV x := by (repeat (first | exact iv_nil | (refine iv_cons (by decide) (by decide) ?_)))) : ∀ x ∈ cs, IV x := h
theorem is_auto {cs : List AV} (h : ∀ x ∈ cs, IS x := by (repeat (first | exact is_nil | (refine is_cons (by decide) ?_)))) : ∀ x ∈ cs, IS x := h
theorem ints_of {h : AH} : ∀ {cs : List AV}, (∀ x ∈ cs, IV x) → ∃ xs : List Int, Reps h xs cs [] ∧ xs.length = cs.length ∧ ∀ i ∈ xs, -1000000 ≤ i ∧ i ≤ 1000000
  | [], _ => ⟨[], ⟨rfl, rfl⟩, rfl, by simp⟩
  | c :: cs, hc => by
    obtain ⟨xs, r, hl, hx⟩ := ints_of (h := h) (cs := cs) fun x hx => hc x (by simp [hx])
    obtain ⟨i, rfl, h0, h1⟩ := hc c (by simp)
    exact ⟨i :: xs, ⟨[.int .i64 i], cs, [], [], rfl, rfl, ⟨rfl, rfl⟩, r⟩, by simp [hl], List.forall_mem_cons.2 ⟨⟨h0, h1⟩, hx⟩⟩
theorem strs_of {h : AH} : ∀ {cs : List AV}, (∀ x ∈ cs, IS x) → ∃ xs : List ByteArray, Reps h xs cs [] ∧ xs.length = cs.length ∧ ∀ i ∈ xs, i.size ≤ 50
  | [], _ => ⟨[], ⟨rfl, rfl⟩, rfl, by simp⟩
  | c :: cs, hc => by
    obtain ⟨xs, r, hl, hx⟩ := strs_of (h := h) (cs := cs) fun x hx => hc x (by simp [hx])
    obtain ⟨i, rfl, h0⟩ := hc c (by simp)
    exact ⟨i :: xs, ⟨[.str i], cs, [], [], rfl, rfl, ⟨rfl, rfl⟩, r⟩, by simp [hl], List.forall_mem_cons.2 ⟨h0, hx⟩⟩
theorem slr_bk {α : Type} [Cel α] {h : AH} {b n : Nat} {cs : List AV} {xs : List α} {F : List Nat} (a : Bk h b cs (Cel.w α)) (r : Reps h xs cs F) (hn : xs.length = n) (hs : n < 281474976710656) : SlRep h (.sl b 0 n) xs (b :: F) := by
  have hl := r.length
  obtain ⟨a1, a2⟩ := a
  refine .inr ⟨b, 0, F, cs, by rw [hn], rfl, a1, by simp [live, a2], by rw [a2], by rw [a2]; simp [hl], by omega, by rw [a2]; simp [← hl], r⟩
theorem s_spec_l1Int {h : AH} {c b n : Nat} {cs : List AV} (cu : Cur h c) (a : Bk h b cs 1) (hb : ¬ c = b) (hn : cs.length = n) (h0 : 0 < n) (hs : n < 1000) (hx : ∀ x ∈ cs, IV x) : ACalls Try.prog n_spec_l1Int [.ptr c 0, .sl b 0 n] h (fun u h' => ∃ x : Int, u = .int .i64 x ∧ -1000000 ≤ x ∧ x ≤ 1000000 ∧ Kp h h' [c] ∧ Cur h' c) := by
  obtain ⟨xs, r, hl, hx⟩ := ints_of (h := h) hx
  refine (s0_spec_l1Int cu (slr_bk a r (by omega) (by omega)) (nin_one hb) (by omega)).mono ?_
  rintro u h' ⟨x, rfl, hm, k, cu⟩
  exact ⟨x, rfl, (hx x hm).1, (hx x hm).2, k, cu⟩
theorem s_spec_l1Str {h : AH} {c b n : Nat} {cs : List AV} (cu : Cur h c) (a : Bk h b cs 1) (hb : ¬ c = b) (hn : cs.length = n) (h0 : 0 < n) (hs : n < 1000) (hx : ∀ x ∈ cs, IS x) : ACalls Try.prog n_spec_l1Str [.ptr c 0, .sl b 0 n] h (fun u h' => ∃ x : ByteArray, u = .str x ∧ x.size ≤ 50 ∧ Kp h h' [c] ∧ Cur h' c) := by
  obtain ⟨xs, r, hl, hx⟩ := strs_of (h := h) hx
  refine (s0_spec_l1Str cu (slr_bk a r (by omega) (by omega)) (nin_one hb) (by omega)).mono ?_
  rintro u h' ⟨x, rfl, hm, k, cu⟩
  exact ⟨x, rfl, hx x hm, k, cu⟩
end Go.Proofs.Ytpcgbddmdipfbaa
