/- Deeds, drawn; names of codes. -/
import Derived.Test.YtpcgbddmdipfbaaW45
import Derived.Test.YtpcgbddmdipfbaaW6
import Derived.Test.YtpcgbddmdipfbaaW33
import Derived.Test.YtpcgbddmdipfbaaK4
set_option linter.unusedSimpArgs false
set_option linter.unusedVariables false
set_option maxHeartbeats 2000000
namespace Go.Proofs.Ytpcgbddmdipfbaa
open Go Go.Ab
section
/- impl.CodeName -/
def p_impl_CodeName (x0 : AV) : Prog := .op (.call n_impl_within [x0, AV.int .i64 1, AV.int .i64 5]) fun v1 => .op (.una .not v1) fun v2 => .ite v2 (.fin [.val (AV.str ⟨#[]⟩)]) (.op (.bslice 1 5 z5_6d5 [(0, 1, AV.str ⟨#[104, 101, 108, 100]⟩), (1, 1, AV.str ⟨#[108, 97, 116, 101]⟩), (2, 1, AV.str ⟨#[103, 111, 110, 101]⟩), (3, 1, AV.str ⟨#[115, 104, 117, 116]⟩), (4, 1, AV.str ⟨#[98, 97, 100]⟩)]) fun v3 => .op (.bin 0 .sub x0 (AV.int .i64 1)) fun v4 => .op (.idx 1 v3 v4) fun v5 => .op (.ld1 v5) fun v6 => .fin [.val v6])
theorem c_impl_CodeName (x0 : AV) : CC Try.prog n_impl_CodeName [x0] (p_impl_CodeName x0) := cc Try.func63 [] (fun _ => []) (by kernel_rfl)
/- spec.CodeName -/
def p_spec_CodeName (x0 : AV) : Prog := .op (.bslice 1 5 z5_6d5 [(0, 1, AV.str ⟨#[104, 101, 108, 100]⟩), (1, 1, AV.str ⟨#[108, 97, 116, 101]⟩), (2, 1, AV.str ⟨#[103, 111, 110, 101]⟩), (3, 1, AV.str ⟨#[115, 104, 117, 116]⟩), (4, 1, AV.str ⟨#[98, 97, 100]⟩)]) fun v1 => .op (.call n_spec_l1In [x0, AV.int .i64 1, AV.int .i64 5]) fun v2 => .op (.una .not v2) fun v3 => .ite v3 (.fin [.val (AV.str ⟨#[]⟩)]) (.op (.bin 0 .sub x0 (AV.int .i64 1)) fun v4 => .op (.idx 1 v1 v4) fun v5 => .op (.ld1 v5) fun v6 => .fin [.val v6])
theorem c_spec_CodeName (x0 : AV) : CC Try.prog n_spec_CodeName [x0] (p_spec_CodeName x0) := cc Try.func64 [] (fun _ => []) (by kernel_rfl)
/- laws.sameInts -/
def p_laws_sameInts (x0 x1 : AV) : Prog := .op (.len 0 x0) fun v1 => .op (.len 0 x1) fun v2 => .op (.bin 0 .neq v1 v2) fun v3 => .ite v3 (.fin [.val (AV.bool false)]) (.loop [AV.int .i64 0] (fun vs4 => .op (.len 0 x0) fun v6 => .op (.bin 0 .lss (g vs4 0) v6) fun v7 => .ite v7 (.op (.idx 1 x0 (g vs4 0)) fun v8 => .op (.ld1 v8) fun v9 => .op (.idx 1 x1 (g vs4 0)) fun v10 => .op (.ld1 v10) fun v11 => .op (.bin 0 .neq v9 v11) fun v12 => .ite v12 (.fin [.val (AV.bool false)]) (.op (.bin 0 .add (g vs4 0) (AV.int .i64 1)) fun v13 => .leaf 0 [v13])) (.leaf 2 [g vs4 0])) fun t5 vs4 => tsel t5 1 (.leaf 1 vs4) (tsel t5 2 (.fin [.val (AV.bool true)]) .bad))
theorem c_laws_sameInts (x0 x1 : AV) : CC Try.prog n_laws_sameInts [x0, x1] (p_laws_sameInts x0 x1) := cc Try.func49 [0, 1, 5] (fun r => if r = 6 then [(0, []), (1, []), (2, []), (3, []), (4, []), (5, []), (6, []), (7, []), (8, [])] else []) (by kernel_rfl)
/- laws.at -/
def p_laws_at (x0 x1 : AV) : Prog := .op (.len 0 x0) fun v1 => .op (.bin 0 .lss x1 v1) fun v2 => .ite v2 (.op (.idx 1 x0 x1) fun v3 => .op (.ld1 v3) fun v4 => .op (.conv .i64 v4) fun v5 => .fin [.val v5]) (.op (.bin 0 .mul x1 (AV.int .i64 31)) fun v6 => .op (.len 0 x0) fun v7 => .op (.bin 0 .mul v7 (AV.int .i64 7)) fun v8 => .op (.bin 0 .add v6 v8) fun v9 => .op (.bin 0 .rem v9 (AV.int .i64 256)) fun v10 => .fin [.val v10])
theorem c_laws_at (x0 x1 : AV) : CC Try.prog n_laws_at [x0, x1] (p_laws_at x0 x1) := cc Try.func56 [] (fun _ => []) (by kernel_rfl)
/- laws.big -/
def p_laws_big (x0 : AV) : Prog := .op (.len 0 x0) fun v1 => .op (.bin 0 .gtr v1 (AV.int .i64 1048576)) fun v2 => .fin [.val v2]
theorem c_laws_big (x0 : AV) : CC Try.prog n_laws_big [x0] (p_laws_big x0) := cc Try.func37 [] (fun _ => []) (by kernel_rfl)
end
/-- What is drawn from bytes. -/
def DwX (α : Type) [Cel α] (h : AH) (p : α → Prop) : AV → AH → Prop := fun u h' => ∃ x cs F, u = .agg cs ∧ Cel.rep h' x cs F ∧ Own h.n h' F ∧ Ext h h' ∧ p x
def DwS (α : Type) [Cel α] (h : AH) (p : List α → Prop) : AV → AH → Prop := fun u h' => ∃ xs F, SlRep h' u xs F ∧ Own h.n h' F ∧ Ext h h' ∧ p xs
def Dw2 (α : Type) [Cel α] (h : AH) (p : α → α → Prop) : AV → AH → Prop := fun u h' => ∃ x cs F y ds G, u = .tup [.agg cs, .agg ds] ∧ Cel.rep h' x cs F ∧ Own h.n h' F ∧ Cel.rep h' y ds G ∧ Own h.n h' G ∧ Ext h h' ∧ p x y
theorem ext_kpc {g h h0 : AH} {c : Nat} (k : Kp g h [c]) (hc : h0.n ≤ c) (e : Ext h0 g) : Ext h0 h := k.ext e fun b hb => by rw [List.mem_singleton.1 hb]; exact hc
theorem exc_auto {a b : AH} (e : Ext a b := by (repeat (first | assumption | exact Ext.refl _ | refine Ext.push ?_ _ | refine Ext.upd ?_ om_auto _ | refine Ext.trans ?_ (by assumption) | ((with_reducible apply ext_kpc); assumption) | exact om_auto))) : Ext a b := e
theorem s_spec_DrawDeedOk {h : AH} {l : List UInt8} {v : AV} {F : List Nat} (hs : l.length ≤ 1048576) (r : SlRep h v l F) : ACalls Try.prog n_spec_DrawDeedOk [v] h (DwX Deed h dD) := by
  refine c_spec_DrawDeedOk _ ?_
  unfold p_spec_DrawDeedOk
  (repeat' first|refine vs ?_|(refine br ?_ ?_<;>intro _<;>try(exfalso;first|omega|contradiction))|((with_reducible refine g_callf n_spec_l1New ?_);(refine aw_call (s_spec_l1New hs slr_auto) ?_; rintro _ h1 ⟨c, rfl, e1, lc, cu1⟩; have n1 := e1.1; (try simp only [push_n, upd_n] at n1); (try simp only [push_n, upd_n] at lc); have lc2 := cu1.lt))|((with_reducible refine g_callf n_spec_l15Any ?_);(refine aw_call (s_spec_l15Any cur_auto) ?_; rintro _ h2 ⟨d, _, G, rfl, ⟨u, rfl, ru⟩, ou, k2, cu2, hd⟩; have n2 := k2.1; (try simp only [push_n, upd_n] at n2)))|((with_reducible refine g_idx ?_);((first|refine ix ?_|refine ixi ?_|(refine ixg ?_;intro _ _)|(refine ixgi ?_;intro _ _));first|rintro _ _ _ _ _ ⟨rfl,rfl⟩ _|rintro _ _ _ _ _ ⟨_,rfl,_⟩ _|rintro _ _ _ _ _ ⟨_,_,_,_,rfl,rfl,_,_⟩ _|intro _ _ _ _ _ _ _))|(refine sx ?_;intro _ _)|((with_reducible refine g_awp ?_);simp only [g0,g1,g2]))
  exact ⟨rfl, _, rfl, d, _, _, rfl, ⟨u, rfl, slr_auto⟩, ol_auto, exc_auto, hd⟩
theorem s_spec_DrawAhead {h : AH} {l : List UInt8} {v : AV} {F : List Nat} (hs : l.length ≤ 1048576) (r : SlRep h v l F) : ACalls Try.prog n_spec_DrawAhead [v] h (Dw2 Deed h fun a b => dD a ∧ dD b) := by
  refine c_spec_DrawAhead _ ?_
  unfold p_spec_DrawAhead
  (repeat' first|refine vs ?_|(refine br ?_ ?_<;>intro _<;>try(exfalso;first|omega|contradiction))|((with_reducible refine g_callf n_spec_l1New ?_);(refine aw_call (s_spec_l1New hs slr_auto) ?_; rintro _ h1 ⟨c, rfl, e1, lc, cu1⟩; have n1 := e1.1; (try simp only [push_n, upd_n] at n1); (try simp only [push_n, upd_n] at lc); have lc2 := cu1.lt))|((with_reducible refine g_callf n_spec_l15Any ?_);(refine aw_call (s_spec_l15Any cur_auto) ?_; rintro _ h2 ⟨d, _, G, rfl, ⟨u, rfl, ru⟩, ou, k2, cu2, hd⟩; have n2 := k2.1; (try simp only [push_n, upd_n] at n2)))|((with_reducible refine g_idx ?_);((first|refine ix ?_|refine ixi ?_|(refine ixg ?_;intro _ _)|(refine ixgi ?_;intro _ _));first|rintro _ _ _ _ _ ⟨rfl,rfl⟩ _|rintro _ _ _ _ _ ⟨_,rfl,_⟩ _|rintro _ _ _ _ _ ⟨_,_,_,_,rfl,rfl,_,_⟩ _|intro _ _ _ _ _ _ _))|(refine sx ?_;intro _ _)|((with_reducible refine g_awp ?_);simp only [g0,g1,g2]))
  rename_i d0 _ _ _ _ _ _ _ _
  exact ⟨rfl, _, rfl, d0, _, _, d, _, _, rfl, ⟨_, rfl, slr_auto⟩, ol_auto, ⟨_, rfl, slr_auto⟩, ol_auto, exc_auto, by assumption, by assumption⟩
theorem s_spec_DrawSameDeed {h : AH} {l : List UInt8} {v : AV} {F : List Nat} (hs : l.length ≤ 1048576) (r : SlRep h v l F) : ACalls Try.prog n_spec_DrawSameDeed [v] h (Dw2 Deed h fun a b => dD a ∧ dD b) := by
  refine c_spec_DrawSameDeed _ ?_
  unfold p_spec_DrawSameDeed
  (repeat' first|refine vs ?_|(refine br ?_ ?_<;>intro _<;>try(exfalso;first|omega|contradiction))|((with_reducible refine g_callf n_spec_l1New ?_);(refine aw_call (s_spec_l1New hs slr_auto) ?_; rintro _ h1 ⟨c, rfl, e1, lc, cu1⟩; have n1 := e1.1; (try simp only [push_n, upd_n] at n1); (try simp only [push_n, upd_n] at lc); have lc2 := cu1.lt))|((with_reducible refine g_callf n_spec_l15Any ?_);(refine aw_call (s_spec_l15Any cur_auto) ?_; rintro _ h2 ⟨d, _, G, rfl, ⟨u, rfl, ru⟩, ou, k2, cu2, hd⟩; have n2 := k2.1; (try simp only [push_n, upd_n] at n2)))|((with_reducible refine g_callf n_spec_l1Once ?_);(refine aw_call (s_spec_l1Once cur_auto (by omega) (by omega)) ?_; rintro _ h2 ⟨b, rfl, k2, cu2⟩; have n2 := k2.1; (try simp only [push_n, upd_n] at n2); cases b))|((with_reducible refine g_callf n_spec_l15Copy ?_);(refine aw_call (s_spec_l15Copy d (by have := dD_sz hd; omega) _ _ _ ⟨_, rfl, slr_auto⟩) ?_; rintro _ h2 ⟨e2, _, G2, rfl, ⟨w2, rfl, q2⟩, o2⟩; have n2 := e2.1; (try simp only [push_n, upd_n] at n2)))|((with_reducible refine g_idx ?_);((first|refine ix ?_|refine ixi ?_|(refine ixg ?_;intro _ _)|(refine ixgi ?_;intro _ _));first|rintro _ _ _ _ _ ⟨rfl,rfl⟩ _|rintro _ _ _ _ _ ⟨_,rfl,_⟩ _|rintro _ _ _ _ _ ⟨_,_,_,_,rfl,rfl,_,_⟩ _|intro _ _ _ _ _ _ _))|(refine sx ?_;intro _ _)|((with_reducible refine g_awp ?_);simp only [g0,g1,g2]))
  · rename_i d0 _ _ _ _ _ _ _ _ _ _ _ _
    exact ⟨rfl, _, rfl, d0, _, _, d, _, _, rfl, ⟨_, rfl, slr_auto⟩, ol_auto, ⟨_, rfl, slr_auto⟩, ol_auto, exc_auto, by assumption, by assumption⟩
  · exact ⟨rfl, _, rfl, d, _, _, d, _, _, rfl, ⟨_, rfl, slr_auto⟩, ol_auto, ⟨_, rfl, slr_auto⟩, ol_auto, exc_auto, by assumption, by assumption⟩
theorem s_laws_sameInts : EqS Int Try.prog n_laws_sameInts := by
  intro xs v v' F F' h r r'
  have hsm := r.small
  refine reader (c_laws_sameInts _ _) (by simp only [old]) ?_
  unfold p_laws_sameInts
  (repeat' first|refine vs ?_|(refine br ?_ ?_<;>intro _<;>try(exfalso;first|omega|contradiction))|((with_reducible refine g_idx ?_);((first|refine ix ?_|refine ixi ?_|(refine ixg ?_;intro _ _)|(refine ixgi ?_;intro _ _));first|rintro _ _ _ _ _ ⟨rfl,rfl⟩ _|rintro _ _ _ _ _ ⟨_,rfl,_⟩ _|rintro _ _ _ _ _ ⟨_,_,_,_,rfl,rfl,_,_⟩ _|intro _ _ _ _ _ _ _))|(refine sx ?_;intro _ _)|((with_reducible refine g_awp ?_);simp only [g0,g1,g2]))
  refine aw_upto xs.length (fun i vs h1 => vs = [.int .i64 (i : Int)] ∧ i ≤ xs.length ∧ h1 = h) ⟨rfl, Nat.zero_le _, rfl⟩ ?_
  rintro i vs h1 _ ⟨rfl, hi, rfl⟩
  simp only [g0]
  refine aw_len r ?_
  refine br (fun hlt => ?_) (fun hge => ?_)
  · obtain ⟨x, hx, -, -⟩ := drop_step (show i < xs.length by omega)
    refine vs ?_
    refine aw_idx r hx rfl ?_
    rintro b o _ Fi a ⟨rfl, rfl⟩ _
    refine vs ?_
    refine aw_idx r' hx rfl ?_
    rintro b2 o2 _ Fi2 a2 ⟨rfl, rfl⟩ _
    (repeat' first|refine vs ?_|(refine br ?_ ?_<;>intro _<;>try(exfalso;first|omega|contradiction))|((with_reducible refine g_idx ?_);((first|refine ix ?_|refine ixi ?_|(refine ixg ?_;intro _ _)|(refine ixgi ?_;intro _ _));first|rintro _ _ _ _ _ ⟨rfl,rfl⟩ _|rintro _ _ _ _ _ ⟨_,rfl,_⟩ _|rintro _ _ _ _ _ ⟨_,_,_,_,rfl,rfl,_,_⟩ _|intro _ _ _ _ _ _ _))|(refine sx ?_;intro _ _)|((with_reducible refine g_awp ?_);simp only [g0,g1,g2]))
    exact ⟨by omega, rfl, by omega, rfl⟩
  · (repeat' first|refine vs ?_|(refine br ?_ ?_<;>intro _<;>try(exfalso;first|omega|contradiction))|((with_reducible refine g_idx ?_);((first|refine ix ?_|refine ixi ?_|(refine ixg ?_;intro _ _)|(refine ixgi ?_;intro _ _));first|rintro _ _ _ _ _ ⟨rfl,rfl⟩ _|rintro _ _ _ _ _ ⟨_,rfl,_⟩ _|rintro _ _ _ _ _ ⟨_,_,_,_,rfl,rfl,_,_⟩ _|intro _ _ _ _ _ _ _))|(refine sx ?_;intro _ _)|((with_reducible refine g_awp ?_);simp only [g0,g1,g2]))
    exact pb rfl
theorem s_laws_big {h : AH} {l : List UInt8} {v : AV} {F : List Nat} (r : SlRep h v l F) : RCalls Try.prog n_laws_big [v] h (.bool (bp (1048576 < l.length))) := by
  refine reader (c_laws_big _) (by simp only [old]) ?_
  unfold p_laws_big
  (repeat' first|refine vs ?_|(refine br ?_ ?_<;>intro _<;>try(exfalso;first|omega|contradiction))|((with_reducible refine g_idx ?_);((first|refine ix ?_|refine ixi ?_|(refine ixg ?_;intro _ _)|(refine ixgi ?_;intro _ _));first|rintro _ _ _ _ _ ⟨rfl,rfl⟩ _|rintro _ _ _ _ _ ⟨_,rfl,_⟩ _|rintro _ _ _ _ _ ⟨_,_,_,_,rfl,rfl,_,_⟩ _|intro _ _ _ _ _ _ _))|(refine sx ?_;intro _ _)|((with_reducible refine g_awp ?_);simp only [g0,g1,g2]))
  · exact pt (by omega)
  · exact pf (by omega)
set_option maxRecDepth 20000 in
theorem s_laws_at {h : AH} {l : List UInt8} {v : AV} {F : List Nat} (hs : l.length ≤ 1048576) (r : SlRep h v l F) (i : Int) (h0 : 0 ≤ i) (h1 : i < 1048576) : ∃ x : Int, 0 ≤ x ∧ x < 256 ∧ RCalls Try.prog n_laws_at [v, .int .i64 i] h (.int .i64 x) := by
  by_cases hlt : i < l.length
  · obtain ⟨i, rfl⟩ : ∃ j : Nat, i = (j : Int) := ⟨i.toNat, by omega⟩
    obtain ⟨y, hy, -, -⟩ := drop_step (show i < l.length by omega)
    have hyl : y.toNat < 256 := y.toNat_lt
    refine ⟨(y.toNat : Int), by omega, by omega, ?_⟩
    refine reader (c_laws_at _ _) (by simp only [old]) ?_
    unfold p_laws_at
    refine vs ?_
    refine br (fun q => ?_) (fun q => absurd hlt q)
    refine vs ?_
    refine aw_idx r hy rfl ?_
    rintro b o _ Fi a ⟨rfl, -⟩ _
    refine vs ?_
    exact pi rfl
  · refine ⟨(i * 31 + l.length * 7).tmod 256, Int.tmod_nonneg _ (by omega), Int.tmod_lt_of_pos _ (by omega), ?_⟩
    refine reader (c_laws_at _ _) (by simp only [old]) ?_
    unfold p_laws_at
    refine vs ?_
    refine br (fun q => absurd q (by omega)) (fun q => ?_)
    refine vs ?_
    refine aw_muln (by omega) (by omega) ?_
    refine vs ?_
    refine aw_muln (by omega) (by omega) ?_
    refine vs ?_
    exact pi rfl
theorem sa_laws_at {h : AH} {l : List UInt8} {v : AV} {F : List Nat} (hs : l.length ≤ 1048576) (r : SlRep h v l F) (i : Int) (h0 : 0 ≤ i) (h1 : i < 1048576) : ACalls Try.prog n_laws_at [v, .int .i64 i] h fun u h' => ∃ x : Int, u = .int .i64 x ∧ 0 ≤ x ∧ x < 256 ∧ h' = h := by
  obtain ⟨x, hx0, hx1, c⟩ := s_laws_at hs r i h0 h1
  refine ACalls.mono c ?_
  rintro _ _ ⟨rfl, rfl⟩
  exact ⟨x, rfl, hx0, hx1, rfl⟩
def cn : List ByteArray := [⟨#[104, 101, 108, 100]⟩, ⟨#[108, 97, 116, 101]⟩, ⟨#[103, 111, 110, 101]⟩, ⟨#[115, 104, 117, 116]⟩, ⟨#[98, 97, 100]⟩]
def codeName (k : Int) : ByteArray := if 1 ≤ k ∧ k ≤ 5 then (cn[(k - 1).toNat]?).getD ⟨#[]⟩ else ⟨#[]⟩
theorem cn_reps {h : AH} : Reps h cn [AV.str ⟨#[104, 101, 108, 100]⟩, AV.str ⟨#[108, 97, 116, 101]⟩, AV.str ⟨#[103, 111, 110, 101]⟩, AV.str ⟨#[115, 104, 117, 116]⟩, AV.str ⟨#[98, 97, 100]⟩] [] :=
  ⟨[_], _, [], [], rfl, rfl, ⟨rfl, rfl⟩, [_], _, [], [], rfl, rfl, ⟨rfl, rfl⟩, [_], _, [], [], rfl, rfl, ⟨rfl, rfl⟩, [_], _, [], [], rfl, rfl, ⟨rfl, rfl⟩, [_], _, [], [], rfl, rfl, ⟨rfl, rfl⟩, rfl, rfl⟩
theorem codeName_in {k : Int} {x : ByteArray} (h : 1 ≤ k ∧ k ≤ 5) (hx : cn[(k - 1).toNat]? = some x) : codeName k = x := by
  unfold codeName; rw [if_pos h, hx]; rfl
theorem codeName_out {k : Int} (h : ¬ (1 ≤ k ∧ k ≤ 5)) : codeName k = ⟨#[]⟩ := by unfold codeName; rw [if_neg h]
theorem codeName_ne {k : Int} (h : 1 ≤ k ∧ k ≤ 5) : codeName k ≠ ⟨#[]⟩ := by
  obtain ⟨h1, h2⟩ := h
  have : k = 1 ∨ k = 2 ∨ k = 3 ∨ k = 4 ∨ k = 5 := by omega
  rcases this with rfl | rfl | rfl | rfl | rfl <;> decide
theorem s_impl_CodeName {h : AH} {k : Int} : RCalls Try.prog n_impl_CodeName [.int .i64 k] h (.str (codeName k)) := by
  refine reader (c_impl_CodeName _) (by simp only [old]) ?_
  unfold p_impl_CodeName
  have rk := slrep_push (n := 5) (h := h) (xs := cn) rfl (by decide) cn_reps
  by_cases hk : 1 ≤ k ∧ k ≤ 5
  · obtain ⟨x, hx, -, -⟩ := drop_step (show (k - 1).toNat < cn.length by show _ < 5; omega)
    (repeat' first|refine vs ?_|(refine br ?_ ?_<;>intro _<;>try(exfalso;first|omega|contradiction))|((with_reducible refine g_callf n_impl_within ?_);(refine aw_rcall_b (s_impl_within) ?_ ?_ <;> intro hb <;> (first | replace hb := inB_t hb | replace hb := inB_f hb)))|((with_reducible refine g_idx ?_);((first|refine ix ?_|refine ixi ?_|(refine ixg ?_;intro _ _)|(refine ixgi ?_;intro _ _));first|rintro _ _ _ _ _ ⟨rfl,rfl⟩ _|rintro _ _ _ _ _ ⟨_,rfl,_⟩ _|rintro _ _ _ _ _ ⟨_,_,_,_,rfl,rfl,_,_⟩ _|intro _ _ _ _ _ _ _))|(refine sx ?_;intro _ _)|((with_reducible refine g_awp ?_);simp only [g0,g1,g2]))
    all_goals first
      | exact absurd hk hb
      | exact ⟨rfl, by rw [codeName_in hk hx], ext_auto⟩
  · (repeat' first|refine vs ?_|(refine br ?_ ?_<;>intro _<;>try(exfalso;first|omega|contradiction))|((with_reducible refine g_callf n_impl_within ?_);(refine aw_rcall_b (s_impl_within) ?_ ?_ <;> intro hb <;> (first | replace hb := inB_t hb | replace hb := inB_f hb)))|((with_reducible refine g_idx ?_);((first|refine ix ?_|refine ixi ?_|(refine ixg ?_;intro _ _)|(refine ixgi ?_;intro _ _));first|rintro _ _ _ _ _ ⟨rfl,rfl⟩ _|rintro _ _ _ _ _ ⟨_,rfl,_⟩ _|rintro _ _ _ _ _ ⟨_,_,_,_,rfl,rfl,_,_⟩ _|intro _ _ _ _ _ _ _))|(refine sx ?_;intro _ _)|((with_reducible refine g_awp ?_);simp only [g0,g1,g2]))
    all_goals first
      | exact absurd hb hk
      | exact ⟨rfl, by rw [codeName_out hk], ext_auto⟩
theorem s_spec_CodeName {h : AH} {k : Int} : RCalls Try.prog n_spec_CodeName [.int .i64 k] h (.str (codeName k)) := by
  refine reader (c_spec_CodeName _) (by simp only [old]) ?_
  unfold p_spec_CodeName
  have rk := slrep_push (n := 5) (h := h) (xs := cn) rfl (by decide) cn_reps
  by_cases hk : 1 ≤ k ∧ k ≤ 5
  · obtain ⟨x, hx, -, -⟩ := drop_step (show (k - 1).toNat < cn.length by show _ < 5; omega)
    (repeat' first|refine vs ?_|(refine br ?_ ?_<;>intro _<;>try(exfalso;first|omega|contradiction))|((with_reducible refine g_callf n_spec_l1In ?_);(refine aw_rcall_b (s_spec_l1In) ?_ ?_ <;> intro hb <;> (first | replace hb := inB_t hb | replace hb := inB_f hb)))|((with_reducible refine g_idx ?_);((first|refine ix ?_|refine ixi ?_|(refine ixg ?_;intro _ _)|(refine ixgi ?_;intro _ _));first|rintro _ _ _ _ _ ⟨rfl,rfl⟩ _|rintro _ _ _ _ _ ⟨_,rfl,_⟩ _|rintro _ _ _ _ _ ⟨_,_,_,_,rfl,rfl,_,_⟩ _|intro _ _ _ _ _ _ _))|(refine sx ?_;intro _ _)|((with_reducible refine g_awp ?_);simp only [g0,g1,g2]))
    all_goals first
      | exact absurd hk hb
      | exact ⟨rfl, by rw [codeName_in hk hx], ext_auto⟩
  · (repeat' first|refine vs ?_|(refine br ?_ ?_<;>intro _<;>try(exfalso;first|omega|contradiction))|((with_reducible refine g_callf n_spec_l1In ?_);(refine aw_rcall_b (s_spec_l1In) ?_ ?_ <;> intro hb <;> (first | replace hb := inB_t hb | replace hb := inB_f hb)))|((with_reducible refine g_idx ?_);((first|refine ix ?_|refine ixi ?_|(refine ixg ?_;intro _ _)|(refine ixgi ?_;intro _ _));first|rintro _ _ _ _ _ ⟨rfl,rfl⟩ _|rintro _ _ _ _ _ ⟨_,rfl,_⟩ _|rintro _ _ _ _ _ ⟨_,_,_,_,rfl,rfl,_,_⟩ _|intro _ _ _ _ _ _ _))|(refine sx ?_;intro _ _)|((with_reducible refine g_awp ?_);simp only [g0,g1,g2]))
    all_goals first
      | exact absurd hb hk
      | exact ⟨rfl, by rw [codeName_out hk], ext_auto⟩
theorem s_spec_DrawOrder {h : AH} {l : List UInt8} {v : AV} {F : List Nat} (hs : l.length ≤ 1048576) (r : SlRep h v l F) : ACalls Try.prog n_spec_DrawOrder [v] h (DwS Deed h fun xs => xs.length ≤ 10 ∧ ∀ d ∈ xs, dD d) := by
  refine c_spec_DrawOrder _ ?_
  unfold p_spec_DrawOrder
  refine aw_call (s_spec_l1New hs r) ?_
  rintro _ h1 ⟨c, rfl, e1, lc, cu1⟩
  have lc1 := cu1.lt
  obtain ⟨re, oe⟩ := empty_own (h := h1) (α := Deed) (w := 20) rfl
  refine vs ?_
  refine aw_call (s_spec_l1Below cur_auto (by omega) (by omega)) ?_
  rintro _ h2 ⟨x, rfl, hx0, hx1, k2, cu2⟩
  have n2 := k2.1
  simp only [push_n] at n2
  have re2 := slr_kp1 k2 re (dis_one (nin_one (by omega)))
  have oe2 : Own h1.n h2 [h1.n] := (ol_kp1 k2 (ol_mk (oe h1.n (by omega)) re (Nat.le_refl _)) (dis_one (nin_one (by omega)))).1
  obtain ⟨x, rfl⟩ : ∃ j : Nat, x = (j : Int) := ⟨x.toNat, by omega⟩
  have k12 : Kp h1 h2 [c] := kp_auto
  clear re oe k2
  refine aw_loop (fun n vs h3 => ∃ u xs G, vs = [u, .int .i64 (n : Int)] ∧ xs.length + n ≤ 9 ∧ Kp h1 h3 [c] ∧ Cur h3 c ∧ SlRep h3 u xs G ∧ Own h1.n h3 G ∧ ∀ d ∈ xs, dD d) x ⟨_, [], _, rfl, by simp only [List.length_nil]; omega, k12, cu2, re2, oe2, by simp⟩ ?_
  clear re2 oe2 k12 cu2 n2
  rintro n vs h3 ⟨u, xs, G, rfl, hn, k3, cu3, ru, ou, hd⟩
  have n3 := k3.1
  have lc3 := cu3.lt
  simp only [g0, g1]
  refine br (fun q => ?_) (fun q => ?_)
  · refine vs ?_
    refine aw_call (s_spec_l15Any cu3) ?_
    rintro _ h4 ⟨d, _, G4, rfl, ⟨w, rfl, r4⟩, o4, k4, cu4, hd4⟩
    have n4 := k4.1
    have ru4 : SlRep h4 u xs G := slr_auto
    have ou4 : Own h1.n h4 (G ++ G4) := own_app ol_auto o4 (by omega) (dis_own ru o4 (Nat.le_refl _))
    have kk : Kp h1 h4 [c] := kp_auto
    clear ru k3 k4
    refine vs ?_
    refine app1F (n := h1.n) (a := d) (cs := d.cs w) (G := G4) ru4 ⟨w, rfl, r4⟩ ou4 (by omega) rfl (by omega) (by omega) ?_
    intro u' h5 F' _ k5 r5 o5 w5
    refine vs ?_
    have en : ((n : Int) - 1) = ((n - 1 : Nat) : Int) := by omega
    rw [en]
    refine ⟨n - 1, by omega, _, _, _, rfl, by simp only [List.length_append, List.length_singleton]; omega, kp_stepN k5 kk fun b hb => by have := (ou4.2 b (by simp [hb])).1; omega, cur_kp1 k5 cu4 fun b hb => by have := (ou4.2 b (by simp [hb])).1; omega, r5, o5, fun z hz => ?_⟩
    rcases List.mem_append.1 hz with g | g
    · exact hd z g
    · rw [List.mem_singleton.1 g]; exact hd4
  · refine vs ?_
    refine ⟨rfl, _, rfl, _, _, ru, ou.mono (by omega) fun _ _ => rfl, ext_kpc k3 (by omega) e1, by omega, hd⟩
end Go.Proofs.Ytpcgbddmdipfbaa
