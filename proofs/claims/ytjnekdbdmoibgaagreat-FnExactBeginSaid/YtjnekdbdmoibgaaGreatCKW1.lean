import Derived.Test.YtjnekdbdmoibgaaGreatCNm
import Derived.Test.YtjnekdbdmoibgaaGreatCK4
section
/- Numbers, names and plain strings. -/
set_option linter.unusedSimpArgs false
set_option linter.unusedVariables false
namespace Go.Proofs.YtjnekdbdmoibgaaGreat
open Go Go.Ab
section
/- impl.within -/
def p_impl_within (x0 x1 x2 : AV) : Prog := .op (.bin 0 .geq x0 x1) fun v1 => .gop v1 true (.mv x0) fun v2 => .gop v1 true (.mv x2) fun v3 => .gop v1 true (.bin 0 .leq v2 v3) fun v4 => .op (.pick v1 v4 (AV.bool false)) fun v5 => .fin [.val v5]
theorem c_impl_within (x0 x1 x2 : AV) : CC Tryz.prog n_impl_within [x0, x1, x2] (p_impl_within x0 x1 x2) := cc Tryz.func56 [] (fun _ => []) (by kernel_rfl)
/- spec.l1In -/
def p_spec_l1In (x0 x1 x2 : AV) : Prog := .op (.bin 0 .geq x0 x1) fun v1 => .gop v1 true (.mv x0) fun v2 => .gop v1 true (.mv x2) fun v3 => .gop v1 true (.bin 0 .leq v2 v3) fun v4 => .op (.pick v1 v4 (AV.bool false)) fun v5 => .fin [.val v5]
theorem c_spec_l1In (x0 x1 x2 : AV) : CC Tryz.prog n_spec_l1In [x0, x1, x2] (p_spec_l1In x0 x1 x2) := cc Tryz.func43 [] (fun _ => []) (by kernel_rfl)
/- impl.Cap -/
/- spec.Cap -/
/- impl.Add -/
/- spec.Add -/
end
def inB (a lo hi : Int) : Bool := decide (lo ≤ a ∧ a ≤ hi)
theorem inB_t {a lo hi : Int} (h : inB a lo hi = true) : lo ≤ a ∧ a ≤ hi := by simpa [inB] using h
theorem inB_f {a lo hi : Int} (h : inB a lo hi = false) : ¬ (lo ≤ a ∧ a ≤ hi) := by simpa [inB] using h
theorem s_spec_l1In {h : AH} {a lo hi : Int} : RCalls Tryz.prog n_spec_l1In [.int .i64 a, .int .i64 lo, .int .i64 hi] h (.bool (inB a lo hi)) := by
  refine reader (c_spec_l1In _ _ _) (by simp only [old]) ?_
  unfold p_spec_l1In
  (repeat' first|refine vs ?_|(refine br ?_ ?_<;>intro _<;>try(exfalso;first|omega|contradiction))|((with_reducible refine g_idx ?_);((first|refine ix ?_|refine ixi ?_|(refine ixg ?_;intro _ _)|(refine ixgi ?_;intro _ _));first|rintro _ _ _ _ _ ⟨rfl,rfl⟩ _|rintro _ _ _ _ _ ⟨_,rfl,_⟩ _|rintro _ _ _ _ _ ⟨_,_,_,_,rfl,rfl,_,_⟩ _|intro _ _ _ _ _ _ _))|(refine sx ?_;intro _ _)|((with_reducible refine g_awp ?_);simp only [g0,g1,g2]))
  all_goals (refine pb ?_; simp [inB]; omega)
theorem s_impl_within {h : AH} {a lo hi : Int} : RCalls Tryz.prog n_impl_within [.int .i64 a, .int .i64 lo, .int .i64 hi] h (.bool (inB a lo hi)) := by
  refine reader (c_impl_within _ _ _) (by simp only [old]) ?_
  unfold p_impl_within
  (repeat' first|refine vs ?_|(refine br ?_ ?_<;>intro _<;>try(exfalso;first|omega|contradiction))|((with_reducible refine g_idx ?_);((first|refine ix ?_|refine ixi ?_|(refine ixg ?_;intro _ _)|(refine ixgi ?_;intro _ _));first|rintro _ _ _ _ _ ⟨rfl,rfl⟩ _|rintro _ _ _ _ _ ⟨_,rfl,_⟩ _|rintro _ _ _ _ _ ⟨_,_,_,_,rfl,rfl,_,_⟩ _|intro _ _ _ _ _ _ _))|(refine sx ?_;intro _ _)|((with_reducible refine g_awp ?_);simp only [g0,g1,g2]))
  all_goals (refine pb ?_; simp [inB]; omega)

def cap (n : Int) : Int := min (max n 0) 2147483647
end Go.Proofs.YtjnekdbdmoibgaaGreat
end
section
/- Names, plain strings, attributes. -/
set_option linter.unusedSimpArgs false
set_option linter.unusedVariables false
namespace Go.Proofs.YtjnekdbdmoibgaaGreat
open Go Go.Ab
section
/- impl.NameOk -/
def p_impl_NameOk (x0 : AV) : Prog := .loop [AV.int .i64 0] (fun vs1 => .op (.len 1 x0) fun v3 => .op (.bin 0 .lss (g vs1 0) v3) fun v4 => .ite v4 (.op (.sidx x0 (g vs1 0)) fun v5 => .op (.bin 0 .lss v5 (AV.int .u8 97)) fun v6 => .gop v6 false (.mv x0) fun v7 => .gop v6 false (.mv (g vs1 0)) fun v8 => .gop v6 false (.sidx v7 v8) fun v9 => .gop v6 false (.bin 0 .gtr v9 (AV.int .u8 122)) fun v10 => .op (.pick v6 (AV.bool true) v10) fun v11 => .ite v11 (.fin [.val (AV.bool false)]) (.op (.bin 0 .add (g vs1 0) (AV.int .i64 1)) fun v12 => .leaf 0 [v12])) (.leaf 2 [g vs1 0])) fun t2 vs1 => tsel t2 1 (.leaf 1 vs1) (tsel t2 2 (.op (.len 1 x0) fun v13 => .op (.call n_impl_within [v13, AV.int .i64 1, AV.int .i64 8]) fun v14 => .fin [.val v14]) .bad)
theorem c_impl_NameOk (x0 : AV) : CC Tryz.prog n_impl_NameOk [x0] (p_impl_NameOk x0) := cc Tryz.func342 [0, 3] (fun _ => []) (by kernel_rfl)
/- spec.NameOk -/
def p_spec_NameOk (x0 : AV) : Prog := .loop [AV.int .i64 0] (fun vs1 => .op (.len 1 x0) fun v3 => .op (.bin 0 .lss (g vs1 0) v3) fun v4 => .ite v4 (.op (.sidx x0 (g vs1 0)) fun v5 => .op (.bin 0 .lss v5 (AV.int .u8 97)) fun v6 => .gop v6 false (.mv x0) fun v7 => .gop v6 false (.mv (g vs1 0)) fun v8 => .gop v6 false (.sidx v7 v8) fun v9 => .gop v6 false (.bin 0 .gtr v9 (AV.int .u8 122)) fun v10 => .op (.pick v6 (AV.bool true) v10) fun v11 => .ite v11 (.fin [.val (AV.bool false)]) (.op (.bin 0 .add (g vs1 0) (AV.int .i64 1)) fun v12 => .leaf 0 [v12])) (.leaf 2 [g vs1 0])) fun t2 vs1 => tsel t2 1 (.leaf 1 vs1) (tsel t2 2 (.op (.len 1 x0) fun v13 => .op (.call n_spec_l1In [v13, AV.int .i64 1, AV.int .i64 8]) fun v14 => .fin [.val v14]) .bad)
theorem c_spec_NameOk (x0 : AV) : CC Tryz.prog n_spec_NameOk [x0] (p_spec_NameOk x0) := cc Tryz.func344 [0, 3] (fun _ => []) (by kernel_rfl)
/- impl.PlainOk -/
def p_impl_PlainOk (x0 : AV) : Prog := .loop [AV.int .i64 0] (fun vs1 => .op (.len 1 x0) fun v3 => .op (.bin 0 .lss (g vs1 0) v3) fun v4 => .ite v4 (.op (.sidx x0 (g vs1 0)) fun v5 => .op (.conv .i64 v5) fun v6 => .op (.call n_impl_within [v6, AV.int .i64 32, AV.int .i64 126]) fun v7 => .op (.una .not v7) fun v8 => .gop v8 false (.mv x0) fun v9 => .gop v8 false (.mv (g vs1 0)) fun v10 => .gop v8 false (.sidx v9 v10) fun v11 => .gop v8 false (.bin 0 .eql v11 (AV.int .u8 34)) fun v12 => .op (.pick v8 (AV.bool true) v12) fun v13 => .ite v13 (.fin [.val (AV.bool false)]) (.op (.bin 0 .add (g vs1 0) (AV.int .i64 1)) fun v14 => .leaf 0 [v14])) (.leaf 2 [g vs1 0])) fun t2 vs1 => tsel t2 1 (.leaf 1 vs1) (tsel t2 2 (.op (.len 1 x0) fun v15 => .op (.bin 0 .leq v15 (AV.int .i64 20)) fun v16 => .fin [.val v16]) .bad)
theorem c_impl_PlainOk (x0 : AV) : CC Tryz.prog n_impl_PlainOk [x0] (p_impl_PlainOk x0) := cc Tryz.func343 [0, 3] (fun _ => []) (by kernel_rfl)
/- spec.PlainOk -/
def p_spec_PlainOk (x0 : AV) : Prog := .loop [AV.int .i64 0] (fun vs1 => .op (.len 1 x0) fun v3 => .op (.bin 0 .lss (g vs1 0) v3) fun v4 => .ite v4 (.op (.sidx x0 (g vs1 0)) fun v5 => .op (.bin 0 .lss v5 (AV.int .u8 32)) fun v6 => .gop v6 false (.mv x0) fun v7 => .gop v6 false (.mv (g vs1 0)) fun v8 => .gop v6 false (.sidx v7 v8) fun v9 => .gop v6 false (.bin 0 .gtr v9 (AV.int .u8 126)) fun v10 => .op (.pick v6 (AV.bool true) v10) fun v11 => .gop v11 false (.mv x0) fun v12 => .gop v11 false (.mv (g vs1 0)) fun v13 => .gop v11 false (.sidx v12 v13) fun v14 => .gop v11 false (.bin 0 .eql v14 (AV.int .u8 34)) fun v15 => .op (.pick v11 (AV.bool true) v15) fun v16 => .ite v16 (.fin [.val (AV.bool false)]) (.op (.bin 0 .add (g vs1 0) (AV.int .i64 1)) fun v17 => .leaf 0 [v17])) (.leaf 2 [g vs1 0])) fun t2 vs1 => tsel t2 1 (.leaf 1 vs1) (tsel t2 2 (.op (.len 1 x0) fun v18 => .op (.bin 0 .leq v18 (AV.int .i64 20)) fun v19 => .fin [.val v19]) .bad)
theorem c_spec_PlainOk (x0 : AV) : CC Tryz.prog n_spec_PlainOk [x0] (p_spec_PlainOk x0) := cc Tryz.func345 [0, 3] (fun _ => []) (by kernel_rfl)
/- impl.AttrOk -/
def p_impl_AttrOk (x0 : AV) : Prog := .op (.box x0) fun v1 => .op (.fad 1 v1) fun v2 => .op (.ld1 v2) fun v3 => .ite v3 (.op (.fad 0 v1) fun v4 => .op (.ld1 v4) fun v5 => .op (.call n_impl_NameOk [v5]) fun v6 => .gop v6 true (.fad 2 v1) fun v7 => .gop v6 true (.ld1 v7) fun v8 => .gop v6 true (.call n_impl_within [v8, AV.int .i64 0, AV.int .i64 2147483647]) fun v9 => .op (.pick v6 v9 (AV.bool false)) fun v10 => .gop v10 true (.fad 3 v1) fun v11 => .gop v10 true (.ld1 v11) fun v12 => .gop v10 true (.bin 1 .eql v12 (AV.str ⟨#[]⟩)) fun v13 => .op (.pick v10 v13 (AV.bool false)) fun v14 => .fin [.val v14]) (.op (.fad 0 v1) fun v15 => .op (.ld1 v15) fun v16 => .op (.call n_impl_NameOk [v16]) fun v17 => .gop v17 true (.fad 3 v1) fun v18 => .gop v17 true (.ld1 v18) fun v19 => .gop v17 true (.call n_impl_PlainOk [v19]) fun v20 => .op (.pick v17 v20 (AV.bool false)) fun v21 => .gop v21 true (.fad 2 v1) fun v22 => .gop v21 true (.ld1 v22) fun v23 => .gop v21 true (.bin 0 .eql v23 (AV.int .i64 0)) fun v24 => .op (.pick v21 v24 (AV.bool false)) fun v25 => .fin [.val v25])
theorem c_impl_AttrOk (x0 : AV) : CC Tryz.prog n_impl_AttrOk [x0] (p_impl_AttrOk x0) := cc Tryz.func322 [] (fun _ => []) (by kernel_rfl)
/- spec.AttrOk -/
def p_spec_AttrOk (x0 : AV) : Prog := .op (.box x0) fun v1 => .op (.fad 0 v1) fun v2 => .op (.ld1 v2) fun v3 => .op (.call n_spec_NameOk [v3]) fun v4 => .op (.una .not v4) fun v5 => .ite v5 (.fin [.val (AV.bool false)]) (.op (.fad 1 v1) fun v6 => .op (.ld1 v6) fun v7 => .ite v7 (.op (.fad 2 v1) fun v8 => .op (.ld1 v8) fun v9 => .op (.call n_spec_l1In [v9, AV.int .i64 0, AV.int .i64 2147483647]) fun v10 => .gop v10 true (.fad 3 v1) fun v11 => .gop v10 true (.ld1 v11) fun v12 => .gop v10 true (.bin 1 .eql v12 (AV.str ⟨#[]⟩)) fun v13 => .op (.pick v10 v13 (AV.bool false)) fun v14 => .fin [.val v14]) (.op (.fad 2 v1) fun v15 => .op (.ld1 v15) fun v16 => .op (.bin 0 .eql v16 (AV.int .i64 0)) fun v17 => .gop v17 true (.fad 3 v1) fun v18 => .gop v17 true (.ld1 v18) fun v19 => .gop v17 true (.call n_spec_PlainOk [v19]) fun v20 => .op (.pick v17 v20 (AV.bool false)) fun v21 => .fin [.val v21]))
theorem c_spec_AttrOk (x0 : AV) : CC Tryz.prog n_spec_AttrOk [x0] (p_spec_AttrOk x0) := cc Tryz.func326 [] (fun _ => []) (by kernel_rfl)
/- impl.AttrSize -/
def p_impl_AttrSize (x0 : AV) : Prog := .op (.box x0) fun v1 => .op (.fad 1 v1) fun v2 => .op (.ld1 v2) fun v3 => .ite v3 (.op (.fad 0 v1) fun v4 => .op (.ld1 v4) fun v5 => .op (.len 1 v5) fun v6 => .op (.bin 0 .add v6 (AV.int .i64 4)) fun v7 => .fin [.val v7]) (.op (.fad 0 v1) fun v8 => .op (.ld1 v8) fun v9 => .op (.len 1 v9) fun v10 => .op (.fad 3 v1) fun v11 => .op (.ld1 v11) fun v12 => .op (.len 1 v12) fun v13 => .op (.bin 0 .add v10 v13) fun v14 => .fin [.val v14])
theorem c_impl_AttrSize (x0 : AV) : CC Tryz.prog n_impl_AttrSize [x0] (p_impl_AttrSize x0) := cc Tryz.func255 [] (fun _ => []) (by kernel_rfl)
/- spec.AttrSize -/
def p_spec_AttrSize (x0 : AV) : Prog := .op (.box x0) fun v1 => .op (.fad 1 v1) fun v2 => .op (.ld1 v2) fun v3 => .ite v3 (.op (.fad 0 v1) fun v4 => .op (.ld1 v4) fun v5 => .op (.len 1 v5) fun v6 => .op (.bin 0 .add v6 (AV.int .i64 4)) fun v7 => .fin [.val v7]) (.op (.fad 0 v1) fun v8 => .op (.ld1 v8) fun v9 => .op (.len 1 v9) fun v10 => .op (.fad 3 v1) fun v11 => .op (.ld1 v11) fun v12 => .op (.len 1 v12) fun v13 => .op (.bin 0 .add v10 v13) fun v14 => .fin [.val v14])
theorem c_spec_AttrSize (x0 : AV) : CC Tryz.prog n_spec_AttrSize [x0] (p_spec_AttrSize x0) := cc Tryz.func312 [] (fun _ => []) (by kernel_rfl)
end
def nameC (c : UInt8) : Prop := 97 ≤ (c.toNat : Int) ∧ (c.toNat : Int) ≤ 122
def nameOk (s : ByteArray) : Prop := (∀ c ∈ bys s, nameC c) ∧ 1 ≤ (s.size : Int) ∧ (s.size : Int) ≤ 8
theorem s_impl_NameOk {h : AH} {s : ByteArray} (hs : s.size ≤ maxLen) : RCalls Tryz.prog n_impl_NameOk [.str s] h (.bool (bp (nameOk s))) := by
  refine reader (c_impl_NameOk _) (by simp only [old]) ?_
  unfold p_impl_NameOk
  have hs : s.size ≤ 9223372036854775807 := hs
  have hl := bys_len s
  refine aw_upto s.size (fun i vs h1 => vs = [.int .i64 (i : Int)] ∧ i ≤ s.size ∧ h1 = h ∧ Upto (bys s) (fun _ => nameC) i) ⟨rfl, Nat.zero_le _, rfl, up0⟩ ?_
  rintro i vs h1 _ ⟨rfl, hi, rfl, hu⟩
  simp only [g0]
  (repeat' first|refine vs ?_|(refine br ?_ ?_<;>intro _<;>try(exfalso;first|omega|contradiction))|((with_reducible refine g_callf n_impl_within ?_);refine aw_rcall s_impl_within ?_)|((with_reducible refine g_idx ?_);((first|refine ix ?_|refine ixi ?_|(refine ixg ?_;intro _ _)|(refine ixgi ?_;intro _ _));first|rintro _ _ _ _ _ ⟨rfl,rfl⟩ _|rintro _ _ _ _ _ ⟨_,rfl,_⟩ _|rintro _ _ _ _ _ ⟨_,_,_,_,rfl,rfl,_,_⟩ _|intro _ _ _ _ _ _ _))|(refine sx ?_;intro _ _)|((with_reducible refine g_awp ?_);simp only [g0,g1,g2]))
  · exact pf fun k => upNot (by assumption) (by unfold nameC; omega) k.1
  · exact pf fun k => upNot (by assumption) (by unfold nameC; omega) k.1
  · exact ⟨by omega, rfl, by omega, rfl, upS hu (by assumption) (by unfold nameC; omega)⟩
  · have e : i = (bys s).length := by omega
    rw [e] at hu
    exact pb (bp_eq (by simp only [inB, decide_eq_true_eq, nameOk]; exact ⟨fun k => ⟨upAll hu, k⟩, fun k => k.2⟩))
theorem s_spec_NameOk {h : AH} {s : ByteArray} (hs : s.size ≤ maxLen) : RCalls Tryz.prog n_spec_NameOk [.str s] h (.bool (bp (nameOk s))) := by
  refine reader (c_spec_NameOk _) (by simp only [old]) ?_
  unfold p_spec_NameOk
  have hs : s.size ≤ 9223372036854775807 := hs
  have hl := bys_len s
  refine aw_upto s.size (fun i vs h1 => vs = [.int .i64 (i : Int)] ∧ i ≤ s.size ∧ h1 = h ∧ Upto (bys s) (fun _ => nameC) i) ⟨rfl, Nat.zero_le _, rfl, up0⟩ ?_
  rintro i vs h1 _ ⟨rfl, hi, rfl, hu⟩
  simp only [g0]
  (repeat' first|refine vs ?_|(refine br ?_ ?_<;>intro _<;>try(exfalso;first|omega|contradiction))|((with_reducible refine g_callf n_spec_l1In ?_);refine aw_rcall s_spec_l1In ?_)|((with_reducible refine g_idx ?_);((first|refine ix ?_|refine ixi ?_|(refine ixg ?_;intro _ _)|(refine ixgi ?_;intro _ _));first|rintro _ _ _ _ _ ⟨rfl,rfl⟩ _|rintro _ _ _ _ _ ⟨_,rfl,_⟩ _|rintro _ _ _ _ _ ⟨_,_,_,_,rfl,rfl,_,_⟩ _|intro _ _ _ _ _ _ _))|(refine sx ?_;intro _ _)|((with_reducible refine g_awp ?_);simp only [g0,g1,g2]))
  · exact pf fun k => upNot (by assumption) (by unfold nameC; omega) k.1
  · exact pf fun k => upNot (by assumption) (by unfold nameC; omega) k.1
  · exact ⟨by omega, rfl, by omega, rfl, upS hu (by assumption) (by unfold nameC; omega)⟩
  · have e : i = (bys s).length := by omega
    rw [e] at hu
    exact pb (bp_eq (by simp only [inB, decide_eq_true_eq, nameOk]; exact ⟨fun k => ⟨upAll hu, k⟩, fun k => k.2⟩))

def plainC (c : UInt8) : Prop := 32 ≤ (c.toNat : Int) ∧ (c.toNat : Int) ≤ 126 ∧ (c.toNat : Int) ≠ 34
def plainOk (s : ByteArray) : Prop := (∀ c ∈ bys s, plainC c) ∧ (s.size : Int) ≤ 20
theorem s_impl_PlainOk {h : AH} {s : ByteArray} (hs : s.size ≤ maxLen) : RCalls Tryz.prog n_impl_PlainOk [.str s] h (.bool (bp (plainOk s))) := by
  refine reader (c_impl_PlainOk _) (by simp only [old]) ?_
  unfold p_impl_PlainOk
  have hs : s.size ≤ 9223372036854775807 := hs
  have hl := bys_len s
  refine aw_upto s.size (fun i vs h1 => vs = [.int .i64 (i : Int)] ∧ i ≤ s.size ∧ h1 = h ∧ Upto (bys s) (fun _ => plainC) i) ⟨rfl, Nat.zero_le _, rfl, up0⟩ ?_
  rintro i vs h1 _ ⟨rfl, hi, rfl, hu⟩
  simp only [g0]
  (repeat' first|refine vs ?_|(refine br ?_ ?_<;>intro _<;>try(exfalso;first|omega|contradiction))|((with_reducible refine g_callf n_impl_within ?_);(refine aw_rcall_b s_impl_within ?_ ?_ <;> intro hb <;> first | replace hb := inB_t hb | replace hb := inB_f hb))|((with_reducible refine g_idx ?_);((first|refine ix ?_|refine ixi ?_|(refine ixg ?_;intro _ _)|(refine ixgi ?_;intro _ _));first|rintro _ _ _ _ _ ⟨rfl,rfl⟩ _|rintro _ _ _ _ _ ⟨_,rfl,_⟩ _|rintro _ _ _ _ _ ⟨_,_,_,_,rfl,rfl,_,_⟩ _|intro _ _ _ _ _ _ _))|(refine sx ?_;intro _ _)|((with_reducible refine g_awp ?_);simp only [g0,g1,g2]))
  all_goals first
    | exact pf fun k => upNot (by assumption) (by unfold plainC; omega) k.1
    | exact ⟨by omega, rfl, by omega, rfl, upS hu (by assumption) (by unfold plainC; omega)⟩
    | (have e : i = (bys s).length := by omega
       rw [e] at hu
       first | exact pt ⟨upAll hu, by omega⟩ | exact pf fun k => by have := k.2; omega)
theorem s_spec_PlainOk {h : AH} {s : ByteArray} (hs : s.size ≤ maxLen) : RCalls Tryz.prog n_spec_PlainOk [.str s] h (.bool (bp (plainOk s))) := by
  refine reader (c_spec_PlainOk _) (by simp only [old]) ?_
  unfold p_spec_PlainOk
  have hs : s.size ≤ 9223372036854775807 := hs
  have hl := bys_len s
  refine aw_upto s.size (fun i vs h1 => vs = [.int .i64 (i : Int)] ∧ i ≤ s.size ∧ h1 = h ∧ Upto (bys s) (fun _ => plainC) i) ⟨rfl, Nat.zero_le _, rfl, up0⟩ ?_
  rintro i vs h1 _ ⟨rfl, hi, rfl, hu⟩
  simp only [g0]
  (repeat' first|refine vs ?_|(refine br ?_ ?_<;>intro _<;>try(exfalso;first|omega|contradiction))|((with_reducible refine g_idx ?_);((first|refine ix ?_|refine ixi ?_|(refine ixg ?_;intro _ _)|(refine ixgi ?_;intro _ _));first|rintro _ _ _ _ _ ⟨rfl,rfl⟩ _|rintro _ _ _ _ _ ⟨_,rfl,_⟩ _|rintro _ _ _ _ _ ⟨_,_,_,_,rfl,rfl,_,_⟩ _|intro _ _ _ _ _ _ _))|(refine sx ?_;intro _ _)|((with_reducible refine g_awp ?_);simp only [g0,g1,g2]))
  all_goals first
    | exact pf fun k => upNot (by assumption) (by unfold plainC; omega) k.1
    | exact ⟨by omega, rfl, by omega, rfl, upS hu (by assumption) (by unfold plainC; omega)⟩
    | (have e : i = (bys s).length := by omega
       rw [e] at hu
       first | exact pt ⟨upAll hu, by omega⟩ | exact pf fun k => by have := k.2; omega)

def empty : ByteArray := ⟨#[]⟩
def attrOk (a : Attr) : Prop := nameOk a.key ∧ ((a.num = true ∧ (0 ≤ a.n ∧ a.n ≤ 2147483647) ∧ a.text = empty) ∨ (a.num = false ∧ a.n = 0 ∧ plainOk a.text))
theorem s_impl_AttrOk {h : AH} {a : Attr} (ok : Cel.ok a) : RCalls Tryz.prog n_impl_AttrOk [.agg a.cs] h (.bool (bp (attrOk a))) := by
  refine reader (c_impl_AttrOk _) (by simp only [old]) ?_
  unfold p_impl_AttrOk
  obtain ⟨k1, k2, k3⟩ := ok
  have k1 : a.key.size ≤ maxLen := k1
  have k3 : a.text.size ≤ maxLen := k3
  (repeat' first|refine vs ?_|(refine br ?_ ?_<;>intro _<;>try(exfalso;first|omega|contradiction))|((with_reducible refine g_callf n_impl_NameOk ?_);(refine aw_rcall_b (s_impl_NameOk k1) ?_ ?_ <;> intro hn <;> first | replace hn := bp_true hn | replace hn := bp_false hn))|((with_reducible refine g_callf n_impl_PlainOk ?_);(refine aw_rcall_b (s_impl_PlainOk k3) ?_ ?_ <;> intro hp <;> first | replace hp := bp_true hp | replace hp := bp_false hp))|((with_reducible refine g_callf n_impl_within ?_);(refine aw_rcall_b s_impl_within ?_ ?_ <;> intro hb <;> first | replace hb := inB_t hb | replace hb := inB_f hb))|((with_reducible refine g_idx ?_);((first|refine ix ?_|refine ixi ?_|(refine ixg ?_;intro _ _)|(refine ixgi ?_;intro _ _));first|rintro _ _ _ _ _ ⟨rfl,rfl⟩ _|rintro _ _ _ _ _ ⟨_,rfl,_⟩ _|rintro _ _ _ _ _ ⟨_,_,_,_,rfl,rfl,_,_⟩ _|intro _ _ _ _ _ _ _))|(refine sx ?_;intro _ _)|((with_reducible refine g_awp ?_);simp only [g0,g1,g2]))
  all_goals first
    | (refine pt ?_; unfold attrOk; simp_all [empty]; done)
    | (refine pf ?_; unfold attrOk; simp_all [empty]; done)
    | (refine pf ?_; unfold attrOk; simp_all [empty]; intros; omega)
theorem s_spec_AttrOk {h : AH} {a : Attr} (ok : Cel.ok a) : RCalls Tryz.prog n_spec_AttrOk [.agg a.cs] h (.bool (bp (attrOk a))) := by
  refine reader (c_spec_AttrOk _) (by simp only [old]) ?_
  unfold p_spec_AttrOk
  obtain ⟨k1, k2, k3⟩ := ok
  have k1 : a.key.size ≤ maxLen := k1
  have k3 : a.text.size ≤ maxLen := k3
  (repeat' first|refine vs ?_|(refine br ?_ ?_<;>intro _<;>try(exfalso;first|omega|contradiction))|((with_reducible refine g_callf n_spec_NameOk ?_);(refine aw_rcall_b (s_spec_NameOk k1) ?_ ?_ <;> intro hn <;> first | replace hn := bp_true hn | replace hn := bp_false hn))|((with_reducible refine g_callf n_spec_PlainOk ?_);(refine aw_rcall_b (s_spec_PlainOk k3) ?_ ?_ <;> intro hp <;> first | replace hp := bp_true hp | replace hp := bp_false hp))|((with_reducible refine g_callf n_spec_l1In ?_);(refine aw_rcall_b s_spec_l1In ?_ ?_ <;> intro hb <;> first | replace hb := inB_t hb | replace hb := inB_f hb))|((with_reducible refine g_idx ?_);((first|refine ix ?_|refine ixi ?_|(refine ixg ?_;intro _ _)|(refine ixgi ?_;intro _ _));first|rintro _ _ _ _ _ ⟨rfl,rfl⟩ _|rintro _ _ _ _ _ ⟨_,rfl,_⟩ _|rintro _ _ _ _ _ ⟨_,_,_,_,rfl,rfl,_,_⟩ _|intro _ _ _ _ _ _ _))|(refine sx ?_;intro _ _)|((with_reducible refine g_awp ?_);simp only [g0,g1,g2]))
  all_goals first
    | (refine pt ?_; unfold attrOk; simp_all [empty]; done)
    | (refine pf ?_; unfold attrOk; simp_all [empty]; done)
    | (refine pf ?_; unfold attrOk; simp_all [empty]; intros; omega)

def attrSize (a : Attr) : Int := if a.num = true then a.key.size + 4 else a.key.size + a.text.size
theorem s_impl_AttrSize {h : AH} {a : Attr} (hs : Sz.sz a ≤ 67108864) : RCalls Tryz.prog n_impl_AttrSize [.agg a.cs] h (.int .i64 (attrSize a)) := by
  refine reader (c_impl_AttrSize _) (by simp only [old]) ?_
  unfold p_impl_AttrSize
  have hs : a.key.size + a.text.size ≤ 67108864 := hs
  (repeat' first|refine vs ?_|(refine br ?_ ?_<;>intro _<;>try(exfalso;first|omega|contradiction))|((with_reducible refine g_idx ?_);((first|refine ix ?_|refine ixi ?_|(refine ixg ?_;intro _ _)|(refine ixgi ?_;intro _ _));first|rintro _ _ _ _ _ ⟨rfl,rfl⟩ _|rintro _ _ _ _ _ ⟨_,rfl,_⟩ _|rintro _ _ _ _ _ ⟨_,_,_,_,rfl,rfl,_,_⟩ _|intro _ _ _ _ _ _ _))|(refine sx ?_;intro _ _)|((with_reducible refine g_awp ?_);simp only [g0,g1,g2]))
  all_goals exact pi (by simp [attrSize, *])
theorem s_spec_AttrSize {h : AH} {a : Attr} (hs : Sz.sz a ≤ 67108864) : RCalls Tryz.prog n_spec_AttrSize [.agg a.cs] h (.int .i64 (attrSize a)) := by
  refine reader (c_spec_AttrSize _) (by simp only [old]) ?_
  unfold p_spec_AttrSize
  have hs : a.key.size + a.text.size ≤ 67108864 := hs
  (repeat' first|refine vs ?_|(refine br ?_ ?_<;>intro _<;>try(exfalso;first|omega|contradiction))|((with_reducible refine g_idx ?_);((first|refine ix ?_|refine ixi ?_|(refine ixg ?_;intro _ _)|(refine ixgi ?_;intro _ _));first|rintro _ _ _ _ _ ⟨rfl,rfl⟩ _|rintro _ _ _ _ _ ⟨_,rfl,_⟩ _|rintro _ _ _ _ _ ⟨_,_,_,_,rfl,rfl,_,_⟩ _|intro _ _ _ _ _ _ _))|(refine sx ?_;intro _ _)|((with_reducible refine g_awp ?_);simp only [g0,g1,g2]))
  all_goals exact pi (by simp [attrSize, *])
end Go.Proofs.YtjnekdbdmoibgaaGreat
end
section
/- Lists of attributes; things. -/
set_option linter.unusedSimpArgs false
set_option linter.unusedVariables false
namespace Go.Proofs.YtjnekdbdmoibgaaGreat
open Go Go.Ab
section
/- impl.AttrsOk -/
def p_impl_AttrsOk (x0 : AV) : Prog := .op (.len 0 x0) fun v1 => .loop [AV.int .i64 0] (fun vs2 => .op (.bin 0 .lss (g vs2 0) v1) fun v4 => .ite v4 (.op (.idx 4 x0 (g vs2 0)) fun v5 => .op (.ldn 4 v5) fun v6 => .op (.alloc [AV.str ⟨#[]⟩, AV.bool false, AV.int .i64 0, AV.str ⟨#[]⟩]) fun v7 => .op (.st 4 v7 v6) fun v8 => .op (.ldn 4 v7) fun v9 => .op (.call n_impl_AttrOk [v9]) fun v10 => .op (.una .not v10) fun v11 => .gop v11 false (.mv (g vs2 0)) fun v12 => .gop v11 false (.bin 0 .gtr v12 (AV.int .i64 0)) fun v13 => .gop v11 false (.mv v13) fun v14 => .gop v14 true (.mv x0) fun v15 => .gop v14 true (.mv (g vs2 0)) fun v16 => .gop v14 true (.bin 0 .sub v16 (AV.int .i64 1)) fun v17 => .gop v14 true (.idx 4 v15 v17) fun v18 => .gop v14 true (.fad 0 v18) fun v19 => .gop v14 true (.ld1 v19) fun v20 => .gop v14 true (.fad 0 v7) fun v21 => .gop v14 true (.ld1 v21) fun v22 => .gop v14 true (.bin 1 .geq v20 v22) fun v23 => .gop v11 false (.pick v14 v23 (AV.bool false)) fun v24 => .op (.pick v11 (AV.bool true) v24) fun v25 => .ite v25 (.fin [.val (AV.bool false)]) (.op (.bin 0 .add (g vs2 0) (AV.int .i64 1)) fun v26 => .leaf 0 [v26])) (.leaf 2 [g vs2 0])) fun t3 vs2 => tsel t3 1 (.leaf 1 vs2) (tsel t3 2 (.op (.len 0 x0) fun v27 => .op (.bin 0 .leq v27 (AV.int .i64 4)) fun v28 => .fin [.val v28]) .bad)
theorem c_impl_AttrsOk (x0 : AV) : CC Tryz.prog n_impl_AttrsOk [x0] (p_impl_AttrsOk x0) := cc Tryz.func262 [0, 5, 6, 7] (fun r => if r = 4 then [(0, []), (1, []), (2, []), (3, []), (4, []), (5, []), (6, []), (7, []), (8, []), (9, []), (10, []), (11, []), (12, []), (13, []), (14, []), (15, []), (16, []), (17, [])] else []) (by kernel_rfl)
/- spec.AttrsOk -/
def p_spec_AttrsOk (x0 : AV) : Prog := .loop [AV.int .i64 0] (fun vs1 => .op (.len 0 x0) fun v3 => .op (.bin 0 .lss (g vs1 0) v3) fun v4 => .ite v4 (.op (.idx 4 x0 (g vs1 0)) fun v5 => .op (.ldn 4 v5) fun v6 => .op (.call n_spec_AttrOk [v6]) fun v7 => .op (.una .not v7) fun v8 => .gop v8 false (.mv (g vs1 0)) fun v9 => .gop v8 false (.bin 0 .gtr v9 (AV.int .i64 0)) fun v10 => .gop v8 false (.mv v10) fun v11 => .gop v11 true (.mv x0) fun v12 => .gop v11 true (.mv (g vs1 0)) fun v13 => .gop v11 true (.bin 0 .sub v13 (AV.int .i64 1)) fun v14 => .gop v11 true (.idx 4 v12 v14) fun v15 => .gop v11 true (.fad 0 v15) fun v16 => .gop v11 true (.ld1 v16) fun v17 => .gop v11 true (.mv x0) fun v18 => .gop v11 true (.mv (g vs1 0)) fun v19 => .gop v11 true (.idx 4 v18 v19) fun v20 => .gop v11 true (.fad 0 v20) fun v21 => .gop v11 true (.ld1 v21) fun v22 => .gop v11 true (.bin 1 .geq v17 v22) fun v23 => .gop v8 false (.pick v11 v23 (AV.bool false)) fun v24 => .op (.pick v8 (AV.bool true) v24) fun v25 => .ite v25 (.fin [.val (AV.bool false)]) (.op (.bin 0 .add (g vs1 0) (AV.int .i64 1)) fun v26 => .leaf 0 [v26])) (.leaf 2 [g vs1 0])) fun t2 vs1 => tsel t2 1 (.leaf 1 vs1) (tsel t2 2 (.op (.len 0 x0) fun v27 => .op (.bin 0 .leq v27 (AV.int .i64 4)) fun v28 => .fin [.val v28]) .bad)
theorem c_spec_AttrsOk (x0 : AV) : CC Tryz.prog n_spec_AttrsOk [x0] (p_spec_AttrsOk x0) := cc Tryz.func269 [0, 3] (fun r => if r = 4 then [(0, []), (1, []), (2, []), (3, []), (4, []), (5, []), (6, []), (7, []), (8, []), (9, []), (10, []), (11, []), (12, []), (13, []), (14, []), (15, []), (16, []), (17, []), (18, []), (19, []), (20, []), (21, []), (22, []), (23, [])] else []) (by kernel_rfl)
/- impl.SizeOf -/
def p_impl_SizeOf (x0 : AV) : Prog := .op (.box x0) fun v1 => .op (.fad 5 v1) fun v2 => .op (.ld1 v2) fun v3 => .op (.len 0 v3) fun v4 => .loop [AV.int .i64 12, AV.int .i64 0] (fun vs5 => .op (.bin 0 .lss (g vs5 1) v4) fun v7 => .ite v7 (.op (.idx 4 v3 (g vs5 1)) fun v8 => .op (.ldn 4 v8) fun v9 => .op (.alloc [AV.str ⟨#[]⟩, AV.bool false, AV.int .i64 0, AV.str ⟨#[]⟩]) fun v10 => .op (.st 4 v10 v9) fun v11 => .op (.ldn 4 v10) fun v12 => .op (.call n_impl_AttrSize [v12]) fun v13 => .op (.bin 0 .add (g vs5 0) v13) fun v14 => .op (.bin 0 .add (g vs5 1) (AV.int .i64 1)) fun v15 => .leaf 0 [v14, v15]) (.leaf 2 [g vs5 0, g vs5 1])) fun t6 vs5 => tsel t6 1 (.leaf 1 vs5) (tsel t6 2 (.fin [.val (g vs5 0)]) .bad)
theorem c_impl_SizeOf (x0 : AV) : CC Tryz.prog n_impl_SizeOf [x0] (p_impl_SizeOf x0) := cc Tryz.func171 [3, 7, 8, 9] (fun _ => []) (by kernel_rfl)
/- spec.SizeOf -/
def p_spec_SizeOf (x0 : AV) : Prog := .op (.box x0) fun v1 => .loop [AV.int .i64 12, AV.int .i64 0] (fun vs2 => .op (.fad 5 v1) fun v4 => .op (.ld1 v4) fun v5 => .op (.len 0 v5) fun v6 => .op (.bin 0 .lss (g vs2 1) v6) fun v7 => .ite v7 (.op (.fad 5 v1) fun v8 => .op (.ld1 v8) fun v9 => .op (.idx 4 v9 (g vs2 1)) fun v10 => .op (.ldn 4 v10) fun v11 => .op (.call n_spec_AttrSize [v11]) fun v12 => .op (.bin 0 .add (g vs2 0) v12) fun v13 => .op (.bin 0 .add (g vs2 1) (AV.int .i64 1)) fun v14 => .leaf 0 [v13, v14]) (.leaf 2 [g vs2 0, g vs2 1])) fun t3 vs2 => tsel t3 1 (.leaf 1 vs2) (tsel t3 2 (.fin [.val (g vs2 0)]) .bad)
theorem c_spec_SizeOf (x0 : AV) : CC Tryz.prog n_spec_SizeOf [x0] (p_spec_SizeOf x0) := cc Tryz.func248 [1, 3, 4] (fun _ => []) (by kernel_rfl)
/- impl.SpanOk -/
def p_impl_SpanOk (x0 : AV) : Prog := .op (.box x0) fun v1 => .op (.fad 0 v1) fun v2 => .op (.ld1 v2) fun v3 => .op (.call n_impl_within [v3, AV.int .i64 1, AV.int .i64 999]) fun v4 => .gop v4 true (.fad 1 v1) fun v5 => .gop v4 true (.ld1 v5) fun v6 => .gop v4 true (.call n_impl_within [v6, AV.int .i64 1, AV.int .i64 999]) fun v7 => .op (.pick v4 v7 (AV.bool false)) fun v8 => .gop v8 true (.fad 3 v1) fun v9 => .gop v8 true (.ld1 v9) fun v10 => .gop v8 true (.call n_impl_within [v10, AV.int .i64 0, AV.int .i64 99999]) fun v11 => .op (.pick v8 v11 (AV.bool false)) fun v12 => .gop v12 true (.fad 2 v1) fun v13 => .gop v12 true (.ld1 v13) fun v14 => .gop v12 true (.fad 3 v1) fun v15 => .gop v12 true (.ld1 v15) fun v16 => .gop v12 true (.call n_impl_within [v14, AV.int .i64 0, v16]) fun v17 => .op (.pick v12 v17 (AV.bool false)) fun v18 => .gop v18 true (.fad 5 v1) fun v19 => .gop v18 true (.ld1 v19) fun v20 => .gop v18 true (.call n_impl_AttrsOk [v20]) fun v21 => .op (.pick v18 v21 (AV.bool false)) fun v22 => .gop v22 true (.ldn 6 v1) fun v23 => .gop v22 true (.call n_impl_SizeOf [v23]) fun v24 => .gop v22 true (.bin 0 .leq v24 (AV.int .i64 96)) fun v25 => .op (.pick v22 v25 (AV.bool false)) fun v26 => .fin [.val v26]
theorem c_impl_SpanOk (x0 : AV) : CC Tryz.prog n_impl_SpanOk [x0] (p_impl_SpanOk x0) := cc Tryz.func180 [] (fun _ => []) (by kernel_rfl)
/- spec.SpanOk -/
def p_spec_SpanOk (x0 : AV) : Prog := .op (.box x0) fun v1 => .op (.fad 0 v1) fun v2 => .op (.ld1 v2) fun v3 => .op (.call n_spec_l1In [v3, AV.int .i64 1, AV.int .i64 999]) fun v4 => .gop v4 true (.fad 1 v1) fun v5 => .gop v4 true (.ld1 v5) fun v6 => .gop v4 true (.call n_spec_l1In [v6, AV.int .i64 1, AV.int .i64 999]) fun v7 => .op (.pick v4 v7 (AV.bool false)) fun v8 => .gop v8 true (.fad 2 v1) fun v9 => .gop v8 true (.ld1 v9) fun v10 => .gop v8 true (.call n_spec_l1In [v10, AV.int .i64 0, AV.int .i64 99999]) fun v11 => .op (.pick v8 v11 (AV.bool false)) fun v12 => .gop v12 true (.fad 3 v1) fun v13 => .gop v12 true (.ld1 v13) fun v14 => .gop v12 true (.fad 2 v1) fun v15 => .gop v12 true (.ld1 v15) fun v16 => .gop v12 true (.call n_spec_l1In [v14, v16, AV.int .i64 99999]) fun v17 => .op (.pick v12 v17 (AV.bool false)) fun v18 => .gop v18 true (.fad 5 v1) fun v19 => .gop v18 true (.ld1 v19) fun v20 => .gop v18 true (.call n_spec_AttrsOk [v20]) fun v21 => .op (.pick v18 v21 (AV.bool false)) fun v22 => .gop v22 true (.ldn 6 v1) fun v23 => .gop v22 true (.call n_spec_SizeOf [v23]) fun v24 => .gop v22 true (.bin 0 .leq v24 (AV.int .i64 96)) fun v25 => .op (.pick v22 v25 (AV.bool false)) fun v26 => .fin [.val v26]
theorem c_spec_SpanOk (x0 : AV) : CC Tryz.prog n_spec_SpanOk [x0] (p_spec_SpanOk x0) := cc Tryz.func194 [] (fun _ => []) (by kernel_rfl)
/- impl.TotalOf -/
def p_impl_TotalOf (x0 : AV) : Prog := .op (.len 0 x0) fun v1 => .loop [AV.int .i64 0, AV.int .i64 0] (fun vs2 => .op (.bin 0 .lss (g vs2 1) v1) fun v4 => .ite v4 (.op (.idx 6 x0 (g vs2 1)) fun v5 => .op (.ldn 6 v5) fun v6 => .op (.alloc z6_822) fun v7 => .op (.st 6 v7 v6) fun v8 => .op (.ldn 6 v7) fun v9 => .op (.call n_impl_SizeOf [v9]) fun v10 => .op (.bin 0 .add (g vs2 0) v10) fun v11 => .op (.bin 0 .add (g vs2 1) (AV.int .i64 1)) fun v12 => .leaf 0 [v11, v12]) (.leaf 2 [g vs2 0, g vs2 1])) fun t3 vs2 => tsel t3 1 (.leaf 1 vs2) (tsel t3 2 (.fin [.val (g vs2 0)]) .bad)
theorem c_impl_TotalOf (x0 : AV) : CC Tryz.prog n_impl_TotalOf [x0] (p_impl_TotalOf x0) := cc Tryz.func308 [3, 6, 7, 8] (fun _ => []) (by kernel_rfl)
/- spec.TotalOf -/
def p_spec_TotalOf (x0 : AV) : Prog := .loop [AV.int .i64 0, AV.int .i64 0] (fun vs1 => .op (.len 0 x0) fun v3 => .op (.bin 0 .lss (g vs1 1) v3) fun v4 => .ite v4 (.op (.idx 6 x0 (g vs1 1)) fun v5 => .op (.ldn 6 v5) fun v6 => .op (.call n_spec_SizeOf [v6]) fun v7 => .op (.bin 0 .add (g vs1 0) v7) fun v8 => .op (.bin 0 .add (g vs1 1) (AV.int .i64 1)) fun v9 => .leaf 0 [v8, v9]) (.leaf 2 [g vs1 0, g vs1 1])) fun t2 vs1 => tsel t2 1 (.leaf 1 vs1) (tsel t2 2 (.fin [.val (g vs1 0)]) .bad)
theorem c_spec_TotalOf (x0 : AV) : CC Tryz.prog n_spec_TotalOf [x0] (p_spec_TotalOf x0) := cc Tryz.func267 [0, 3, 4] (fun _ => []) (by kernel_rfl)
end
def kge (a b : ByteArray) : Bool := !(Op.bytesLess a.toList b.toList)
def attrsAt (l : List Attr) (i : Nat) (a : Attr) : Prop := attrOk a ∧ ∀ b, 0 < i → l[((i : Int) - 1).toNat]? = some b → kge b.key a.key = false
def attrsOk (l : List Attr) : Prop := (∀ i a, l[i]? = some a → attrsAt l i a) ∧ (l.length : Int) ≤ 4

theorem s_impl_AttrsOk {h : AH} {l : List Attr} {v : AV} {F : List Nat} (ok : ∀ x ∈ l, Cel.ok x) (r : SlRep h v l F) : RCalls Tryz.prog n_impl_AttrsOk [v] h (.bool (bp (attrsOk l))) := by
  refine reader (c_impl_AttrsOk _) (by simp only [old]) ?_
  unfold p_impl_AttrsOk
  have hsm := r.small
  refine vs ?_
  refine aw_upto l.length (fun i vs h1 => vs = [.int .i64 (i : Int)] ∧ i ≤ l.length ∧ Ext h h1 ∧ Upto l (attrsAt l) i) ⟨rfl, Nat.zero_le _, Ext.refl _, up0⟩ ?_
  rintro i vs h1 _ ⟨rfl, hi, e1, hu⟩
  simp only [g0]
  refine br (fun hlt => ?_) (fun hge => ?_)
  · obtain ⟨x, hx, -, -⟩ := drop_step (show i < l.length by omega)
    have okx := ok x (List.mem_of_getElem? hx)
    (repeat' first|refine vs ?_|(refine br ?_ ?_<;>intro _<;>try(exfalso;first|omega|contradiction))|((with_reducible refine g_callf n_impl_AttrOk ?_);(refine aw_rcall_b (s_impl_AttrOk okx) ?_ ?_ <;> intro hn <;> first | replace hn := bp_true hn | replace hn := bp_false hn))|((with_reducible refine g_idx ?_);((first|refine ix ?_|refine ixi ?_|(refine ixg ?_;intro _ _)|(refine ixgi ?_;intro _ _));first|rintro _ _ _ _ _ ⟨rfl,rfl⟩ _|rintro _ _ _ _ _ ⟨_,rfl,_⟩ _|rintro _ _ _ _ _ ⟨_,_,_,_,rfl,rfl,_,_⟩ _|intro _ _ _ _ _ _ _))|(refine sx ?_;intro _ _)|((with_reducible refine g_awp ?_);simp only [g0,g1,g2]))
    all_goals first
      | (refine pf fun k => ?_; have k := k.1 i x hx; simp_all [attrsAt, kge]; done)
      | (refine ⟨by omega, rfl, by omega, ext_auto, upS hu hx ⟨hn, fun b h0 hb => ?_⟩⟩; first | (exfalso; omega) | (simp_all [kge]; done))
  · (repeat' first|refine vs ?_|(refine br ?_ ?_<;>intro _<;>try(exfalso;first|omega|contradiction))|((with_reducible refine g_idx ?_);((first|refine ix ?_|refine ixi ?_|(refine ixg ?_;intro _ _)|(refine ixgi ?_;intro _ _));first|rintro _ _ _ _ _ ⟨rfl,rfl⟩ _|rintro _ _ _ _ _ ⟨_,rfl,_⟩ _|rintro _ _ _ _ _ ⟨_,_,_,_,rfl,rfl,_,_⟩ _|intro _ _ _ _ _ _ _))|(refine sx ?_;intro _ _)|((with_reducible refine g_awp ?_);simp only [g0,g1,g2]))
    all_goals (have e : i = l.length := (by omega); rw [e] at hu; first | exact pt ⟨upEnd hu, by omega⟩ | exact pf fun k => by have := k.2; omega)
theorem s_spec_AttrsOk {h : AH} {l : List Attr} {v : AV} {F : List Nat} (ok : ∀ x ∈ l, Cel.ok x) (r : SlRep h v l F) : RCalls Tryz.prog n_spec_AttrsOk [v] h (.bool (bp (attrsOk l))) := by
  refine reader (c_spec_AttrsOk _) (by simp only [old]) ?_
  unfold p_spec_AttrsOk
  have hsm := r.small
  refine aw_upto l.length (fun i vs h1 => vs = [.int .i64 (i : Int)] ∧ i ≤ l.length ∧ Ext h h1 ∧ Upto l (attrsAt l) i) ⟨rfl, Nat.zero_le _, Ext.refl _, up0⟩ ?_
  rintro i vs h1 _ ⟨rfl, hi, e1, hu⟩
  simp only [g0]
  refine vs ?_
  refine br (fun hlt => ?_) (fun hge => ?_)
  · obtain ⟨x, hx, -, -⟩ := drop_step (show i < l.length by omega)
    have okx := ok x (List.mem_of_getElem? hx)
    (repeat' first|refine vs ?_|(refine br ?_ ?_<;>intro _<;>try(exfalso;first|omega|contradiction))|((with_reducible refine g_callf n_spec_AttrOk ?_);(refine aw_rcall_b (s_spec_AttrOk okx) ?_ ?_ <;> intro hn <;> first | replace hn := bp_true hn | replace hn := bp_false hn))|((with_reducible refine g_idx ?_);((first|refine ix ?_|refine ixi ?_|(refine ixg ?_;intro _ _)|(refine ixgi ?_;intro _ _));first|rintro _ _ _ _ _ ⟨rfl,rfl⟩ _|rintro _ _ _ _ _ ⟨_,rfl,_⟩ _|rintro _ _ _ _ _ ⟨_,_,_,_,rfl,rfl,_,_⟩ _|intro _ _ _ _ _ _ _))|(refine sx ?_;intro _ _)|((with_reducible refine g_awp ?_);simp only [g0,g1,g2]))
    all_goals first
      | (refine pf fun k => ?_; have k := k.1 i x hx; simp_all [attrsAt, kge]; done)
      | (refine ⟨by omega, rfl, by omega, ext_auto, upS hu hx ⟨hn, fun b h0 hb => ?_⟩⟩; first | (exfalso; omega) | (simp_all [kge]; done))
  · (repeat' first|refine vs ?_|(refine br ?_ ?_<;>intro _<;>try(exfalso;first|omega|contradiction))|((with_reducible refine g_idx ?_);((first|refine ix ?_|refine ixi ?_|(refine ixg ?_;intro _ _)|(refine ixgi ?_;intro _ _));first|rintro _ _ _ _ _ ⟨rfl,rfl⟩ _|rintro _ _ _ _ _ ⟨_,rfl,_⟩ _|rintro _ _ _ _ _ ⟨_,_,_,_,rfl,rfl,_,_⟩ _|intro _ _ _ _ _ _ _))|(refine sx ?_;intro _ _)|((with_reducible refine g_awp ?_);simp only [g0,g1,g2]))
    all_goals (have e : i = l.length := (by omega); rw [e] at hu; first | exact pt ⟨upEnd hu, by omega⟩ | exact pf fun k => by have := k.2; omega)

/-! ### Sizes -/
def sumI {α : Type} (f : α → Int) : List α → Int
  | [] => 0
  | x :: l => f x + sumI f l
theorem sumI_app {α : Type} (f : α → Int) : ∀ l r : List α, sumI f (l ++ r) = sumI f l + sumI f r
  | [], r => by simp [sumI]
  | x :: l, r => by simp only [List.cons_append, sumI, sumI_app f l]; omega
theorem sumI_take {α : Type} (f : α → Int) {xs : List α} {i : Nat} {x : α} (ht : xs.take (i + 1) = xs.take i ++ [x]) : sumI f (xs.take (i + 1)) = sumI f (xs.take i) + f x := by rw [ht, sumI_app]; simp [sumI]
theorem sumI_b {α : Type} [Sz α] {f : α → Int} {a b : Int} (hb : ∀ x, 0 ≤ f x ∧ f x ≤ a + b * (Sz.sz x : Nat)) : ∀ l : List α, 0 ≤ sumI f l ∧ sumI f l ≤ a * l.length + b * (szs l : Nat)
  | [] => by simp [sumI, szs]
  | x :: l => by
    have h1 := hb x; have h2 := sumI_b hb l
    simp only [sumI, szs, List.length_cons]
    have e1 : a * ((l.length + 1 : Nat) : Int) = a * l.length + a := by rw [Int.natCast_add, Int.mul_add]; simp
    have e2 : b * ((Sz.sz x + szs l : Nat) : Int) = b * (Sz.sz x : Nat) + b * (szs l : Nat) := by rw [Int.natCast_add, Int.mul_add]
    omega
theorem attrSize_b (a : Attr) : 0 ≤ attrSize a ∧ attrSize a ≤ 4 + 1 * (Sz.sz a : Nat) := by
  have : Sz.sz a = a.key.size + a.text.size := rfl
  unfold attrSize; split <;> omega
def spanSize (s : Span) : Int := 12 + sumI attrSize s.attrs
theorem spanSize_b (s : Span) : 0 ≤ spanSize s ∧ spanSize s ≤ 12 + 4 * (Sz.sz s : Nat) := by
  have : Sz.sz s = s.attrs.length + szs s.attrs := rfl
  have := sumI_b attrSize_b s.attrs
  unfold spanSize; omega
theorem s_impl_SizeOf {h : AH} {s : Span} {v : AV} {F : List Nat} (hs : Sz.sz s ≤ 67108864) (r : SlRep h v s.attrs F) : RCalls Tryz.prog n_impl_SizeOf [.agg (s.cs v)] h (.int .i64 (spanSize s)) := by
  refine reader (c_impl_SizeOf _) (by simp only [old]) ?_
  unfold p_impl_SizeOf
  have hsz : Sz.sz s = s.attrs.length + szs s.attrs := rfl
  have hsm := r.small
  refine vs ?_
  refine aw_upto s.attrs.length (fun i vs h1 => vs = [.int .i64 (12 + sumI attrSize (s.attrs.take i)), .int .i64 (i : Int)] ∧ i ≤ s.attrs.length ∧ Ext h h1) ⟨rfl, Nat.zero_le _, ext_auto⟩ ?_
  rintro i vs h1 _ ⟨rfl, hi, e1⟩
  simp only [g0, g1]
  refine br (fun hlt => ?_) (fun hge => ?_)
  · obtain ⟨x, hx, -, ht⟩ := drop_step (show i < s.attrs.length by omega)
    have h2 := attrSize_b x
    have h3 := sumI_b attrSize_b (s.attrs.take i)
    have h4 := szs_take_le s.attrs i
    have h5 := szs_mem (List.mem_of_getElem? hx)
    rw [List.length_take] at h3
    (repeat' first|refine vs ?_|(refine br ?_ ?_<;>intro _<;>try(exfalso;first|omega|contradiction))|((with_reducible refine g_callf n_impl_AttrSize ?_);refine aw_rcall (s_impl_AttrSize (by omega)) ?_)|((with_reducible refine g_idx ?_);((first|refine ix ?_|refine ixi ?_|(refine ixg ?_;intro _ _)|(refine ixgi ?_;intro _ _));first|rintro _ _ _ _ _ ⟨rfl,rfl⟩ _|rintro _ _ _ _ _ ⟨_,rfl,_⟩ _|rintro _ _ _ _ _ ⟨_,_,_,_,rfl,rfl,_,_⟩ _|intro _ _ _ _ _ _ _))|(refine sx ?_;intro _ _)|((with_reducible refine g_awp ?_);simp only [g0,g1,g2]))
    exact ⟨by omega, by rw [sumI_take _ ht, Int.add_assoc], by omega, ext_auto⟩
  · (repeat' first|refine vs ?_|(refine br ?_ ?_<;>intro _<;>try(exfalso;first|omega|contradiction))|((with_reducible refine g_idx ?_);((first|refine ix ?_|refine ixi ?_|(refine ixg ?_;intro _ _)|(refine ixgi ?_;intro _ _));first|rintro _ _ _ _ _ ⟨rfl,rfl⟩ _|rintro _ _ _ _ _ ⟨_,rfl,_⟩ _|rintro _ _ _ _ _ ⟨_,_,_,_,rfl,rfl,_,_⟩ _|intro _ _ _ _ _ _ _))|(refine sx ?_;intro _ _)|((with_reducible refine g_awp ?_);simp only [g0,g1,g2]))
    refine pi ?_
    rw [show i = s.attrs.length by omega, List.take_length]; rfl
theorem s_spec_SizeOf {h : AH} {s : Span} {v : AV} {F : List Nat} (hs : Sz.sz s ≤ 67108864) (r : SlRep h v s.attrs F) : RCalls Tryz.prog n_spec_SizeOf [.agg (s.cs v)] h (.int .i64 (spanSize s)) := by
  refine reader (c_spec_SizeOf _) (by simp only [old]) ?_
  unfold p_spec_SizeOf
  have hsz : Sz.sz s = s.attrs.length + szs s.attrs := rfl
  have hsm := r.small
  refine vs ?_
  refine aw_upto s.attrs.length (fun i vs h1 => vs = [.int .i64 (12 + sumI attrSize (s.attrs.take i)), .int .i64 (i : Int)] ∧ i ≤ s.attrs.length ∧ Ext (h.push ⟨s.cs v, 0, 0⟩) h1) ⟨rfl, Nat.zero_le _, ext_auto⟩ ?_
  rintro i vs h1 _ ⟨rfl, hi, e1⟩
  simp only [g0, g1]
  refine vs ?_
  refine br (fun hlt => ?_) (fun hge => ?_)
  · obtain ⟨x, hx, -, ht⟩ := drop_step (show i < s.attrs.length by omega)
    have h2 := attrSize_b x
    have h3 := sumI_b attrSize_b (s.attrs.take i)
    have h4 := szs_take_le s.attrs i
    have h5 := szs_mem (List.mem_of_getElem? hx)
    rw [List.length_take] at h3
    (repeat' first|refine vs ?_|(refine br ?_ ?_<;>intro _<;>try(exfalso;first|omega|contradiction))|((with_reducible refine g_callf n_spec_AttrSize ?_);refine aw_rcall (s_spec_AttrSize (by omega)) ?_)|((with_reducible refine g_idx ?_);((first|refine ix ?_|refine ixi ?_|(refine ixg ?_;intro _ _)|(refine ixgi ?_;intro _ _));first|rintro _ _ _ _ _ ⟨rfl,rfl⟩ _|rintro _ _ _ _ _ ⟨_,rfl,_⟩ _|rintro _ _ _ _ _ ⟨_,_,_,_,rfl,rfl,_,_⟩ _|intro _ _ _ _ _ _ _))|(refine sx ?_;intro _ _)|((with_reducible refine g_awp ?_);simp only [g0,g1,g2]))
    exact ⟨by omega, by rw [sumI_take _ ht, Int.add_assoc], by omega, ext_auto⟩
  · (repeat' first|refine vs ?_|(refine br ?_ ?_<;>intro _<;>try(exfalso;first|omega|contradiction))|((with_reducible refine g_idx ?_);((first|refine ix ?_|refine ixi ?_|(refine ixg ?_;intro _ _)|(refine ixgi ?_;intro _ _));first|rintro _ _ _ _ _ ⟨rfl,rfl⟩ _|rintro _ _ _ _ _ ⟨_,rfl,_⟩ _|rintro _ _ _ _ _ ⟨_,_,_,_,rfl,rfl,_,_⟩ _|intro _ _ _ _ _ _ _))|(refine sx ?_;intro _ _)|((with_reducible refine g_awp ?_);simp only [g0,g1,g2]))
    refine pi ?_
    rw [show i = s.attrs.length by omega, List.take_length]; rfl

def spanOk (s : Span) : Prop := (1 ≤ s.trace ∧ s.trace ≤ 999) ∧ (1 ≤ s.id ∧ s.id ≤ 999) ∧ (0 ≤ s.start ∧ s.start ≤ s.fin ∧ s.fin ≤ 99999) ∧ attrsOk s.attrs ∧ spanSize s ≤ 96
theorem s_impl_SpanOk {h : AH} {s : Span} {v : AV} {F : List Nat} (ok : Cel.ok s) (hs : Sz.sz s ≤ 67108864) (r : SlRep h v s.attrs F) : RCalls Tryz.prog n_impl_SpanOk [.agg (s.cs v)] h (.bool (bp (spanOk s))) := by
  refine reader (c_impl_SpanOk _) (by simp only [old]) ?_
  unfold p_impl_SpanOk
  obtain ⟨k1, k2, k3, k4, k5⟩ := ok
  (repeat' first|refine vs ?_|(refine br ?_ ?_<;>intro _<;>try(exfalso;first|omega|contradiction))|((with_reducible refine g_callf n_impl_within ?_);(refine aw_rcall_b s_impl_within ?_ ?_ <;> intro hb <;> first | replace hb := inB_t hb | replace hb := inB_f hb))|((with_reducible refine g_callf n_impl_AttrsOk ?_);(refine aw_rcall_b (s_impl_AttrsOk k5 slr_auto) ?_ ?_ <;> intro hn <;> first | replace hn := bp_true hn | replace hn := bp_false hn))|((with_reducible refine g_callf n_impl_SizeOf ?_);refine aw_rcall (s_impl_SizeOf hs slr_auto) ?_)|((with_reducible refine g_idx ?_);((first|refine ix ?_|refine ixi ?_|(refine ixg ?_;intro _ _)|(refine ixgi ?_;intro _ _));first|rintro _ _ _ _ _ ⟨rfl,rfl⟩ _|rintro _ _ _ _ _ ⟨_,rfl,_⟩ _|rintro _ _ _ _ _ ⟨_,_,_,_,rfl,rfl,_,_⟩ _|intro _ _ _ _ _ _ _))|(refine sx ?_;intro _ _)|((with_reducible refine g_awp ?_);simp only [g0,g1,g2]))
  all_goals first
    | exact pt ⟨by omega, by omega, by omega, by assumption, by omega⟩
    | exact pf fun k => by obtain ⟨a1, a2, a3, a4, a5⟩ := k; first | omega | contradiction
theorem s_spec_SpanOk {h : AH} {s : Span} {v : AV} {F : List Nat} (ok : Cel.ok s) (hs : Sz.sz s ≤ 67108864) (r : SlRep h v s.attrs F) : RCalls Tryz.prog n_spec_SpanOk [.agg (s.cs v)] h (.bool (bp (spanOk s))) := by
  refine reader (c_spec_SpanOk _) (by simp only [old]) ?_
  unfold p_spec_SpanOk
  obtain ⟨k1, k2, k3, k4, k5⟩ := ok
  (repeat' first|refine vs ?_|(refine br ?_ ?_<;>intro _<;>try(exfalso;first|omega|contradiction))|((with_reducible refine g_callf n_spec_l1In ?_);(refine aw_rcall_b s_spec_l1In ?_ ?_ <;> intro hb <;> first | replace hb := inB_t hb | replace hb := inB_f hb))|((with_reducible refine g_callf n_spec_AttrsOk ?_);(refine aw_rcall_b (s_spec_AttrsOk k5 slr_auto) ?_ ?_ <;> intro hn <;> first | replace hn := bp_true hn | replace hn := bp_false hn))|((with_reducible refine g_callf n_spec_SizeOf ?_);refine aw_rcall (s_spec_SizeOf hs slr_auto) ?_)|((with_reducible refine g_idx ?_);((first|refine ix ?_|refine ixi ?_|(refine ixg ?_;intro _ _)|(refine ixgi ?_;intro _ _));first|rintro _ _ _ _ _ ⟨rfl,rfl⟩ _|rintro _ _ _ _ _ ⟨_,rfl,_⟩ _|rintro _ _ _ _ _ ⟨_,_,_,_,rfl,rfl,_,_⟩ _|intro _ _ _ _ _ _ _))|(refine sx ?_;intro _ _)|((with_reducible refine g_awp ?_);simp only [g0,g1,g2]))
  all_goals first
    | exact pt ⟨by omega, by omega, by omega, by assumption, by omega⟩
    | exact pf fun k => by obtain ⟨a1, a2, a3, a4, a5⟩ := k; first | omega | contradiction

theorem s_impl_TotalOf {h : AH} {l : List Span} {v : AV} {F : List Nat} (hs : l.length + szs l ≤ 67108864) (r : SlRep h v l F) : RCalls Tryz.prog n_impl_TotalOf [v] h (.int .i64 (sumI spanSize l)) := by
  refine reader (c_impl_TotalOf _) (by simp only [old]) ?_
  unfold p_impl_TotalOf
  have hsm := r.small
  refine vs ?_
  refine aw_upto l.length (fun i vs h1 => vs = [.int .i64 (sumI spanSize (l.take i)), .int .i64 (i : Int)] ∧ i ≤ l.length ∧ Ext h h1) ⟨rfl, Nat.zero_le _, ext_auto⟩ ?_
  rintro i vs h1 _ ⟨rfl, hi, e1⟩
  simp only [g0, g1]
  refine br (fun hlt => ?_) (fun hge => ?_)
  · obtain ⟨x, hx, -, ht⟩ := drop_step (show i < l.length by omega)
    have h2 := spanSize_b x
    have h3 := sumI_b spanSize_b (l.take i)
    have h4 := szs_take_le l i
    have h5 := szs_mem (List.mem_of_getElem? hx)
    rw [List.length_take] at h3
    (repeat' first|refine vs ?_|(refine br ?_ ?_<;>intro _<;>try(exfalso;first|omega|contradiction))|((with_reducible refine g_callf n_impl_SizeOf ?_);refine aw_rcall (s_impl_SizeOf (by omega) slr_auto) ?_)|((with_reducible refine g_idx ?_);((first|refine ix ?_|refine ixi ?_|(refine ixg ?_;intro _ _)|(refine ixgi ?_;intro _ _));first|rintro _ _ _ _ _ ⟨rfl,rfl⟩ _|rintro _ _ _ _ _ ⟨_,rfl,_⟩ _|rintro _ _ _ _ _ ⟨_,_,_,_,rfl,rfl,_,_⟩ _|intro _ _ _ _ _ _ _))|(refine sx ?_;intro _ _)|((with_reducible refine g_awp ?_);simp only [g0,g1,g2]))
    exact ⟨by omega, by rw [sumI_take _ ht], by omega, ext_auto⟩
  · (repeat' first|refine vs ?_|(refine br ?_ ?_<;>intro _<;>try(exfalso;first|omega|contradiction))|((with_reducible refine g_idx ?_);((first|refine ix ?_|refine ixi ?_|(refine ixg ?_;intro _ _)|(refine ixgi ?_;intro _ _));first|rintro _ _ _ _ _ ⟨rfl,rfl⟩ _|rintro _ _ _ _ _ ⟨_,rfl,_⟩ _|rintro _ _ _ _ _ ⟨_,_,_,_,rfl,rfl,_,_⟩ _|intro _ _ _ _ _ _ _))|(refine sx ?_;intro _ _)|((with_reducible refine g_awp ?_);simp only [g0,g1,g2]))
    refine pi ?_
    rw [show i = l.length by omega, List.take_length]
theorem s_spec_TotalOf {h : AH} {l : List Span} {v : AV} {F : List Nat} (hs : l.length + szs l ≤ 67108864) (r : SlRep h v l F) : RCalls Tryz.prog n_spec_TotalOf [v] h (.int .i64 (sumI spanSize l)) := by
  refine reader (c_spec_TotalOf _) (by simp only [old]) ?_
  unfold p_spec_TotalOf
  have hsm := r.small
  refine aw_upto l.length (fun i vs h1 => vs = [.int .i64 (sumI spanSize (l.take i)), .int .i64 (i : Int)] ∧ i ≤ l.length ∧ Ext h h1) ⟨rfl, Nat.zero_le _, ext_auto⟩ ?_
  rintro i vs h1 _ ⟨rfl, hi, e1⟩
  simp only [g0, g1]
  refine vs ?_
  refine br (fun hlt => ?_) (fun hge => ?_)
  · obtain ⟨x, hx, -, ht⟩ := drop_step (show i < l.length by omega)
    have h2 := spanSize_b x
    have h3 := sumI_b spanSize_b (l.take i)
    have h4 := szs_take_le l i
    have h5 := szs_mem (List.mem_of_getElem? hx)
    rw [List.length_take] at h3
    (repeat' first|refine vs ?_|(refine br ?_ ?_<;>intro _<;>try(exfalso;first|omega|contradiction))|((with_reducible refine g_callf n_spec_SizeOf ?_);refine aw_rcall (s_spec_SizeOf (by omega) slr_auto) ?_)|((with_reducible refine g_idx ?_);((first|refine ix ?_|refine ixi ?_|(refine ixg ?_;intro _ _)|(refine ixgi ?_;intro _ _));first|rintro _ _ _ _ _ ⟨rfl,rfl⟩ _|rintro _ _ _ _ _ ⟨_,rfl,_⟩ _|rintro _ _ _ _ _ ⟨_,_,_,_,rfl,rfl,_,_⟩ _|intro _ _ _ _ _ _ _))|(refine sx ?_;intro _ _)|((with_reducible refine g_awp ?_);simp only [g0,g1,g2]))
    exact ⟨by omega, by rw [sumI_take _ ht], by omega, ext_auto⟩
  · (repeat' first|refine vs ?_|(refine br ?_ ?_<;>intro _<;>try(exfalso;first|omega|contradiction))|((with_reducible refine g_idx ?_);((first|refine ix ?_|refine ixi ?_|(refine ixg ?_;intro _ _)|(refine ixgi ?_;intro _ _));first|rintro _ _ _ _ _ ⟨rfl,rfl⟩ _|rintro _ _ _ _ _ ⟨_,rfl,_⟩ _|rintro _ _ _ _ _ ⟨_,_,_,_,rfl,rfl,_,_⟩ _|intro _ _ _ _ _ _ _))|(refine sx ?_;intro _ _)|((with_reducible refine g_awp ?_);simp only [g0,g1,g2]))
    refine pi ?_
    rw [show i = l.length by omega, List.take_length]
end Go.Proofs.YtjnekdbdmoibgaaGreat
end
section
/- Things that are the same. -/
set_option linter.unusedSimpArgs false
set_option linter.unusedVariables false
namespace Go.Proofs.YtjnekdbdmoibgaaGreat
open Go Go.Ab
section
/- impl.SameSpan -/
def p_impl_SameSpan (x0 x1 : AV) : Prog := .op (.box x0) fun v1 => .op (.box x1) fun v2 => .op (.fad 0 v1) fun v3 => .op (.ld1 v3) fun v4 => .op (.fad 0 v2) fun v5 => .op (.ld1 v5) fun v6 => .op (.bin 0 .eql v4 v6) fun v7 => .gop v7 true (.fad 1 v1) fun v8 => .gop v7 true (.ld1 v8) fun v9 => .gop v7 true (.fad 1 v2) fun v10 => .gop v7 true (.ld1 v10) fun v11 => .gop v7 true (.bin 0 .eql v9 v11) fun v12 => .op (.pick v7 v12 (AV.bool false)) fun v13 => .gop v13 true (.fad 2 v1) fun v14 => .gop v13 true (.ld1 v14) fun v15 => .gop v13 true (.fad 2 v2) fun v16 => .gop v13 true (.ld1 v16) fun v17 => .gop v13 true (.bin 0 .eql v15 v17) fun v18 => .op (.pick v13 v18 (AV.bool false)) fun v19 => .gop v19 true (.fad 3 v1) fun v20 => .gop v19 true (.ld1 v20) fun v21 => .gop v19 true (.fad 3 v2) fun v22 => .gop v19 true (.ld1 v22) fun v23 => .gop v19 true (.bin 0 .eql v21 v23) fun v24 => .op (.pick v19 v24 (AV.bool false)) fun v25 => .gop v25 true (.fad 4 v1) fun v26 => .gop v25 true (.ld1 v26) fun v27 => .gop v25 true (.fad 4 v2) fun v28 => .gop v25 true (.ld1 v28) fun v29 => .gop v25 true (.bin 2 .eql v27 v29) fun v30 => .op (.pick v25 v30 (AV.bool false)) fun v31 => .gop v31 true (.fad 5 v1) fun v32 => .gop v31 true (.ld1 v32) fun v33 => .gop v31 true (.fad 5 v2) fun v34 => .gop v31 true (.ld1 v34) fun v35 => .gop v31 true (.call n_slices_Equal_Attr [v33, v35]) fun v36 => .op (.pick v31 v36 (AV.bool false)) fun v37 => .fin [.val v37]
theorem c_impl_SameSpan (x0 x1 : AV) : CC Tryz.prog n_impl_SameSpan [x0, x1] (p_impl_SameSpan x0 x1) := cc Tryz.func290 [] (fun _ => []) (by kernel_rfl)
/- spec.SameSpan -/
def p_spec_SameSpan (x0 x1 : AV) : Prog := .op (.box x0) fun v1 => .op (.box x1) fun v2 => .op (.fad 0 v1) fun v3 => .op (.ld1 v3) fun v4 => .op (.fad 0 v2) fun v5 => .op (.ld1 v5) fun v6 => .op (.bin 0 .neq v4 v6) fun v7 => .gop v7 false (.fad 1 v1) fun v8 => .gop v7 false (.ld1 v8) fun v9 => .gop v7 false (.fad 1 v2) fun v10 => .gop v7 false (.ld1 v10) fun v11 => .gop v7 false (.bin 0 .neq v9 v11) fun v12 => .op (.pick v7 (AV.bool true) v12) fun v13 => .gop v13 false (.fad 2 v1) fun v14 => .gop v13 false (.ld1 v14) fun v15 => .gop v13 false (.fad 2 v2) fun v16 => .gop v13 false (.ld1 v16) fun v17 => .gop v13 false (.bin 0 .neq v15 v17) fun v18 => .op (.pick v13 (AV.bool true) v18) fun v19 => .gop v19 false (.fad 3 v1) fun v20 => .gop v19 false (.ld1 v20) fun v21 => .gop v19 false (.fad 3 v2) fun v22 => .gop v19 false (.ld1 v22) fun v23 => .gop v19 false (.bin 0 .neq v21 v23) fun v24 => .op (.pick v19 (AV.bool true) v24) fun v25 => .gop v25 false (.fad 4 v1) fun v26 => .gop v25 false (.ld1 v26) fun v27 => .gop v25 false (.fad 4 v2) fun v28 => .gop v25 false (.ld1 v28) fun v29 => .gop v25 false (.bin 2 .neq v27 v29) fun v30 => .op (.pick v25 (AV.bool true) v30) fun v31 => .gop v31 false (.fad 5 v1) fun v32 => .gop v31 false (.ld1 v32) fun v33 => .gop v31 false (.len 0 v33) fun v34 => .gop v31 false (.fad 5 v2) fun v35 => .gop v31 false (.ld1 v35) fun v36 => .gop v31 false (.len 0 v36) fun v37 => .gop v31 false (.bin 0 .neq v34 v37) fun v38 => .op (.pick v31 (AV.bool true) v38) fun v39 => .ite v39 (.fin [.val (AV.bool false)]) (.loop [AV.int .i64 0] (fun vs40 => .op (.fad 5 v1) fun v42 => .op (.ld1 v42) fun v43 => .op (.len 0 v43) fun v44 => .op (.bin 0 .lss (g vs40 0) v44) fun v45 => .ite v45 (.op (.fad 5 v1) fun v46 => .op (.ld1 v46) fun v47 => .op (.idx 4 v47 (g vs40 0)) fun v48 => .op (.ldn 4 v48) fun v49 => .op (.fad 5 v2) fun v50 => .op (.ld1 v50) fun v51 => .op (.idx 4 v51 (g vs40 0)) fun v52 => .op (.ldn 4 v52) fun v53 => .op (.eqs [1, 2, 0, 1] true v49 v53) fun v54 => .ite v54 (.fin [.val (AV.bool false)]) (.op (.bin 0 .add (g vs40 0) (AV.int .i64 1)) fun v55 => .leaf 0 [v55])) (.leaf 2 [g vs40 0])) fun t41 vs40 => tsel t41 1 (.leaf 1 vs40) (tsel t41 2 (.fin [.val (AV.bool true)]) .bad))
theorem c_spec_SameSpan (x0 x1 : AV) : CC Tryz.prog n_spec_SameSpan [x0, x1] (p_spec_SameSpan x0 x1) := cc Tryz.func271 [2, 3, 5] (fun r => if r = 6 then [(0, []), (1, []), (2, []), (3, []), (4, []), (5, []), (6, []), (7, []), (8, []), (9, []), (10, [])] else []) (by kernel_rfl)
/- slices.Equal[[]impl.Attr,impl.Attr] -/
def p_slices_Equal_Attr (x0 x1 : AV) : Prog := .op (.len 0 x0) fun v1 => .op (.len 0 x1) fun v2 => .op (.bin 0 .neq v1 v2) fun v3 => .ite v3 (.fin [.val (AV.bool false)]) (.op (.len 0 x0) fun v4 => .loop [AV.int .i64 0] (fun vs5 => .op (.bin 0 .lss (g vs5 0) v4) fun v7 => .ite v7 (.op (.idx 4 x0 (g vs5 0)) fun v8 => .op (.ldn 4 v8) fun v9 => .op (.idx 4 x1 (g vs5 0)) fun v10 => .op (.ldn 4 v10) fun v11 => .op (.eqs [1, 2, 0, 1] true v9 v11) fun v12 => .ite v12 (.fin [.val (AV.bool false)]) (.op (.bin 0 .add (g vs5 0) (AV.int .i64 1)) fun v13 => .leaf 0 [v13])) (.leaf 2 [g vs5 0])) fun t6 vs5 => tsel t6 1 (.leaf 1 vs5) (tsel t6 2 (.fin [.val (AV.bool true)]) .bad))
theorem c_slices_Equal_Attr (x0 x1 : AV) : CC Tryz.prog n_slices_Equal_Attr [x0, x1] (p_slices_Equal_Attr x0 x1) := cc Tryz.func336 [0, 1, 12, 13] (fun r => if r = 6 then [(0, []), (1, []), (2, []), (3, []), (4, []), (5, []), (6, []), (7, []), (8, [])] else []) (by kernel_rfl)
end
theorem aeqs_Attr (x y : Attr) : aeqs [1, 2, 0, 1] x.cs y.cs = some (bp (x = y)) := by
  have : aeqs [1, 2, 0, 1] x.cs y.cs = some (decide (x.key = y.key) && ((x.num == y.num) && (decide (x.n = y.n) && (decide (x.text = y.text) && true)))) := rfl
  rw [this]
  congr 1
  refine bp_eq ?_
  cases x; cases y
  simp [Attr.mk.injEq]
section
variable {P : Program} {h : AH} {Q : Nat → List AV → AH → Prop} {k : AV → Prog}
theorem w_eqsA {x y : Attr} (h1 : ¬ x = y → (k (.bool true)).awp P h Q) (h2 : x = y → (k (.bool false)).awp P h Q) : (Prog.op (.eqs [1, 2, 0, 1] true (.agg x.cs) (.agg y.cs)) k).awp P h Q := by
  simp only [Prog.awp, AOp.go, aeqs_Attr, if_true]
  by_cases e : x = y
  · rw [bp_t e]; exact h2 e
  · rw [bp_f e]; exact h1 e
end

theorem s_slices_Equal_Attr {h : AH} {xs ys : List Attr} {v0 v1 : AV} {F G : List Nat} (r : SlRep h v0 xs F) (r' : SlRep h v1 ys G) : RCalls Tryz.prog n_slices_Equal_Attr [v0, v1] h (.bool (bp (xs = ys))) := by
  refine reader (c_slices_Equal_Attr _ _) (by simp only [old]) ?_
  unfold p_slices_Equal_Attr
  have hsm := r.small
  refine aw_len r (aw_len r' ?_)
  (repeat' first|refine vs ?_|(refine br ?_ ?_<;>intro _<;>try(exfalso;first|omega|contradiction))|((with_reducible refine g_idx ?_);((first|refine ix ?_|refine ixi ?_|(refine ixg ?_;intro _ _)|(refine ixgi ?_;intro _ _));first|rintro _ _ _ _ _ ⟨rfl,rfl⟩ _|rintro _ _ _ _ _ ⟨_,rfl,_⟩ _|rintro _ _ _ _ _ ⟨_,_,_,_,rfl,rfl,_,_⟩ _|intro _ _ _ _ _ _ _))|(refine sx ?_;intro _ _)|((with_reducible refine g_awp ?_);simp only [g0,g1,g2]))
  · exact pf (by intro k; subst k; omega)
  · refine aw_upto xs.length (fun i vs h1 => vs = [.int .i64 (i : Int)] ∧ i ≤ xs.length ∧ h1 = h ∧ EqUp xs ys i) ⟨rfl, Nat.zero_le _, rfl, eu0⟩ ?_
    rintro i vs h1 _ ⟨rfl, hi, rfl, hu⟩
    simp only [g0]
    refine br (fun hlt => ?_) (fun hge => ?_)
    · obtain ⟨x, hx, -, -⟩ := drop_step (show i < xs.length by omega)
      obtain ⟨y, hy, -, -⟩ := drop_step (show i < ys.length by omega)
      refine vs ?_
      refine aw_idx r hx rfl ?_
      rintro b o _ _ a ⟨rfl, rfl⟩ _
      refine vs ?_
      refine aw_idx r' hy rfl ?_
      rintro b' o' _ _ a' ⟨rfl, rfl⟩ _
      refine vs ?_
      refine w_eqsA (fun e => ?_) (fun e => ?_)
      · (repeat' first|refine vs ?_|(refine br ?_ ?_<;>intro _<;>try(exfalso;first|omega|contradiction))|((with_reducible refine g_idx ?_);((first|refine ix ?_|refine ixi ?_|(refine ixg ?_;intro _ _)|(refine ixgi ?_;intro _ _));first|rintro _ _ _ _ _ ⟨rfl,rfl⟩ _|rintro _ _ _ _ _ ⟨_,rfl,_⟩ _|rintro _ _ _ _ _ ⟨_,_,_,_,rfl,rfl,_,_⟩ _|intro _ _ _ _ _ _ _))|(refine sx ?_;intro _ _)|((with_reducible refine g_awp ?_);simp only [g0,g1,g2]))
        exact pf (euNot hx hy e)
      · (repeat' first|refine vs ?_|(refine br ?_ ?_<;>intro _<;>try(exfalso;first|omega|contradiction))|((with_reducible refine g_idx ?_);((first|refine ix ?_|refine ixi ?_|(refine ixg ?_;intro _ _)|(refine ixgi ?_;intro _ _));first|rintro _ _ _ _ _ ⟨rfl,rfl⟩ _|rintro _ _ _ _ _ ⟨_,rfl,_⟩ _|rintro _ _ _ _ _ ⟨_,_,_,_,rfl,rfl,_,_⟩ _|intro _ _ _ _ _ _ _))|(refine sx ?_;intro _ _)|((with_reducible refine g_awp ?_);simp only [g0,g1,g2]))
        exact ⟨by omega, rfl, by omega, rfl, euS hu hx hy e⟩
    · (repeat' first|refine vs ?_|(refine br ?_ ?_<;>intro _<;>try(exfalso;first|omega|contradiction))|((with_reducible refine g_idx ?_);((first|refine ix ?_|refine ixi ?_|(refine ixg ?_;intro _ _)|(refine ixgi ?_;intro _ _));first|rintro _ _ _ _ _ ⟨rfl,rfl⟩ _|rintro _ _ _ _ _ ⟨_,rfl,_⟩ _|rintro _ _ _ _ _ ⟨_,_,_,_,rfl,rfl,_,_⟩ _|intro _ _ _ _ _ _ _))|(refine sx ?_;intro _ _)|((with_reducible refine g_awp ?_);simp only [g0,g1,g2]))
      exact pt (euEnd (by rw [show i = xs.length by omega] at hu; exact hu) (by omega))

theorem s_impl_SameSpan {h : AH} {a b : Span} {v v' : AV} {F F' : List Nat} (r : SlRep h v a.attrs F) (r' : SlRep h v' b.attrs F') : RCalls Tryz.prog n_impl_SameSpan [.agg (a.cs v), .agg (b.cs v')] h (.bool (bp (a = b))) := by
  refine reader (c_impl_SameSpan _ _) (by simp only [old]) ?_
  unfold p_impl_SameSpan
  (repeat' first|refine vs ?_|(refine br ?_ ?_<;>intro _<;>try(exfalso;first|omega|contradiction))|((with_reducible refine g_callf n_slices_Equal_Attr ?_);(refine aw_rcall_b (s_slices_Equal_Attr slr_auto slr_auto) ?_ ?_ <;> intro hn <;> first | replace hn := bp_true hn | replace hn := bp_false hn))|((with_reducible refine g_idx ?_);((first|refine ix ?_|refine ixi ?_|(refine ixg ?_;intro _ _)|(refine ixgi ?_;intro _ _));first|rintro _ _ _ _ _ ⟨rfl,rfl⟩ _|rintro _ _ _ _ _ ⟨_,rfl,_⟩ _|rintro _ _ _ _ _ ⟨_,_,_,_,rfl,rfl,_,_⟩ _|intro _ _ _ _ _ _ _))|(refine sx ?_;intro _ _)|((with_reducible refine g_awp ?_);simp only [g0,g1,g2]))
  all_goals first
    | (refine pf ?_; rintro rfl; first | contradiction | (simp_all; done))
    | (refine pt ?_; cases a; cases b; simp_all; done)
theorem s_spec_SameSpan {h : AH} {a b : Span} {v v' : AV} {F F' : List Nat} (r : SlRep h v a.attrs F) (r' : SlRep h v' b.attrs F') : RCalls Tryz.prog n_spec_SameSpan [.agg (a.cs v), .agg (b.cs v')] h (.bool (bp (a = b))) := by
  refine reader (c_spec_SameSpan _ _) (by simp only [old]) ?_
  unfold p_spec_SameSpan
  have hsm := r.small
  (repeat' first|refine vs ?_|(refine br ?_ ?_<;>intro _<;>try(exfalso;first|omega|contradiction))|((with_reducible refine g_idx ?_);((first|refine ix ?_|refine ixi ?_|(refine ixg ?_;intro _ _)|(refine ixgi ?_;intro _ _));first|rintro _ _ _ _ _ ⟨rfl,rfl⟩ _|rintro _ _ _ _ _ ⟨_,rfl,_⟩ _|rintro _ _ _ _ _ ⟨_,_,_,_,rfl,rfl,_,_⟩ _|intro _ _ _ _ _ _ _))|(refine sx ?_;intro _ _)|((with_reducible refine g_awp ?_);simp only [g0,g1,g2]))
  all_goals first
    | (refine pf ?_; rintro rfl; first | contradiction | omega | (simp_all; done))
    | skip
  refine aw_upto a.attrs.length (fun i vs h1 => vs = [.int .i64 (i : Int)] ∧ i ≤ a.attrs.length ∧ Ext ((h.push ⟨a.cs v, 0, 0⟩).push ⟨b.cs v', 0, 0⟩) h1 ∧ EqUp a.attrs b.attrs i) ⟨rfl, Nat.zero_le _, ext_auto, eu0⟩ ?_
  rintro i vs h1 _ ⟨rfl, hi, e1, hu⟩
  simp only [g0]
  refine vs ?_
  refine br (fun hlt => ?_) (fun hge => ?_)
  · obtain ⟨x, hx, -, -⟩ := drop_step (show i < a.attrs.length by omega)
    obtain ⟨y, hy, -, -⟩ := drop_step (show i < b.attrs.length by omega)
    (repeat' first|refine vs ?_|(refine br ?_ ?_<;>intro _<;>try(exfalso;first|omega|contradiction))|((with_reducible refine g_idx ?_);((first|refine ix ?_|refine ixi ?_|(refine ixg ?_;intro _ _)|(refine ixgi ?_;intro _ _));first|rintro _ _ _ _ _ ⟨rfl,rfl⟩ _|rintro _ _ _ _ _ ⟨_,rfl,_⟩ _|rintro _ _ _ _ _ ⟨_,_,_,_,rfl,rfl,_,_⟩ _|intro _ _ _ _ _ _ _))|(refine sx ?_;intro _ _)|((with_reducible refine g_awp ?_);simp only [g0,g1,g2]))
    refine w_eqsA (fun e => ?_) (fun e => ?_)
    · (repeat' first|refine vs ?_|(refine br ?_ ?_<;>intro _<;>try(exfalso;first|omega|contradiction))|((with_reducible refine g_idx ?_);((first|refine ix ?_|refine ixi ?_|(refine ixg ?_;intro _ _)|(refine ixgi ?_;intro _ _));first|rintro _ _ _ _ _ ⟨rfl,rfl⟩ _|rintro _ _ _ _ _ ⟨_,rfl,_⟩ _|rintro _ _ _ _ _ ⟨_,_,_,_,rfl,rfl,_,_⟩ _|intro _ _ _ _ _ _ _))|(refine sx ?_;intro _ _)|((with_reducible refine g_awp ?_);simp only [g0,g1,g2]))
      refine pf ?_
      rintro rfl
      exact euNot hx hy e rfl
    · (repeat' first|refine vs ?_|(refine br ?_ ?_<;>intro _<;>try(exfalso;first|omega|contradiction))|((with_reducible refine g_idx ?_);((first|refine ix ?_|refine ixi ?_|(refine ixg ?_;intro _ _)|(refine ixgi ?_;intro _ _));first|rintro _ _ _ _ _ ⟨rfl,rfl⟩ _|rintro _ _ _ _ _ ⟨_,rfl,_⟩ _|rintro _ _ _ _ _ ⟨_,_,_,_,rfl,rfl,_,_⟩ _|intro _ _ _ _ _ _ _))|(refine sx ?_;intro _ _)|((with_reducible refine g_awp ?_);simp only [g0,g1,g2]))
      exact ⟨by omega, rfl, by omega, ext_auto, euS hu hx hy e⟩
  · (repeat' first|refine vs ?_|(refine br ?_ ?_<;>intro _<;>try(exfalso;first|omega|contradiction))|((with_reducible refine g_idx ?_);((first|refine ix ?_|refine ixi ?_|(refine ixg ?_;intro _ _)|(refine ixgi ?_;intro _ _));first|rintro _ _ _ _ _ ⟨rfl,rfl⟩ _|rintro _ _ _ _ _ ⟨_,rfl,_⟩ _|rintro _ _ _ _ _ ⟨_,_,_,_,rfl,rfl,_,_⟩ _|intro _ _ _ _ _ _ _))|(refine sx ?_;intro _ _)|((with_reducible refine g_awp ?_);simp only [g0,g1,g2]))
    have e : a.attrs = b.attrs := euEnd (by rw [show i = a.attrs.length by omega] at hu; exact hu) (by omega)
    refine pt ?_
    cases a; cases b; simp_all
end Go.Proofs.YtjnekdbdmoibgaaGreat
end
section
/- Rules: copies, comparisons, sizes; what is the same. -/
set_option linter.unusedSimpArgs false
set_option linter.unusedVariables false
set_option maxHeartbeats 1000000
namespace Go.Proofs.YtjnekdbdmoibgaaGreat
open Go Go.Ab
section
/- laws.toPol -/
def p_laws_toPol (x0 : AV) : Prog := .op (.box x0) fun v1 => .op (.alloc z5_5ed) fun v2 => .op (.alloc z5_5ed) fun v3 => .op (.fad 0 v1) fun v4 => .op (.ld1 v4) fun v5 => .op (.fad 0 v3) fun v6 => .op (.st 1 v6 v5) fun v7 => .op (.fad 1 v1) fun v8 => .op (.ld1 v8) fun v9 => .op (.fad 1 v3) fun v10 => .op (.st 1 v10 v9) fun v11 => .op (.fad 2 v1) fun v12 => .op (.ld1 v12) fun v13 => .op (.fad 2 v3) fun v14 => .op (.st 1 v14 v13) fun v15 => .op (.fad 3 v1) fun v16 => .op (.ld1 v16) fun v17 => .op (.fad 3 v3) fun v18 => .op (.st 1 v18 v17) fun v19 => .op (.fad 4 v1) fun v20 => .op (.ld1 v20) fun v21 => .op (.call n_laws_toPolS [v21]) fun v22 => .op (.fad 4 v3) fun v23 => .op (.st 1 v23 v22) fun v24 => .op (.ldn 5 v3) fun v25 => .op (.st 5 v2 v25) fun v26 => .fin [.cn 5 v2]
theorem c_laws_toPol (x0 : AV) : CC Tryz.prog n_laws_toPol [x0] (p_laws_toPol x0) := cc Tryz.func127 [] (fun _ => []) (by kernel_rfl)
/- laws.eqPol -/
def p_laws_eqPol (x0 x1 : AV) : Prog := .op (.box x0) fun v1 => .op (.box x1) fun v2 => .op (.fad 0 v1) fun v3 => .op (.ld1 v3) fun v4 => .op (.fad 0 v2) fun v5 => .op (.ld1 v5) fun v6 => .op (.bin 0 .neq v4 v6) fun v7 => .ite v7 (.fin [.val (AV.bool false)]) (.op (.fad 1 v1) fun v8 => .op (.ld1 v8) fun v9 => .op (.fad 1 v2) fun v10 => .op (.ld1 v10) fun v11 => .op (.bin 0 .neq v9 v11) fun v12 => .ite v12 (.fin [.val (AV.bool false)]) (.op (.fad 2 v1) fun v13 => .op (.ld1 v13) fun v14 => .op (.fad 2 v2) fun v15 => .op (.ld1 v15) fun v16 => .op (.bin 1 .neq v14 v16) fun v17 => .ite v17 (.fin [.val (AV.bool false)]) (.op (.fad 3 v1) fun v18 => .op (.ld1 v18) fun v19 => .op (.fad 3 v2) fun v20 => .op (.ld1 v20) fun v21 => .op (.bin 1 .neq v19 v21) fun v22 => .ite v22 (.fin [.val (AV.bool false)]) (.op (.fad 4 v1) fun v23 => .op (.ld1 v23) fun v24 => .op (.fad 4 v2) fun v25 => .op (.ld1 v25) fun v26 => .op (.call n_laws_eqPolS [v24, v26]) fun v27 => .op (.una .not v27) fun v28 => .ite v28 (.fin [.val (AV.bool false)]) (.fin [.val (AV.bool true)])))))
theorem c_laws_eqPol (x0 x1 : AV) : CC Tryz.prog n_laws_eqPol [x0, x1] (p_laws_eqPol x0 x1) := cc Tryz.func151 [] (fun _ => []) (by kernel_rfl)
/- laws.szPol -/
def p_laws_szPol (x0 x1 : AV) : Prog := .op (.box x0) fun v1 => .op (.fad 2 v1) fun v2 => .op (.ld1 v2) fun v3 => .op (.len 1 v3) fun v4 => .op (.bin 0 .sub x1 v4) fun v5 => .op (.bin 0 .lss v5 (AV.int .i64 0)) fun v6 => .ite v6 (.fin [.val (AV.int .i64 (-1))]) (.op (.fad 3 v1) fun v7 => .op (.ld1 v7) fun v8 => .op (.len 1 v8) fun v9 => .op (.bin 0 .sub v5 v9) fun v10 => .op (.bin 0 .lss v10 (AV.int .i64 0)) fun v11 => .ite v11 (.fin [.val (AV.int .i64 (-1))]) (.op (.fad 4 v1) fun v12 => .op (.ld1 v12) fun v13 => .op (.call n_laws_szPolS [v13, v10]) fun v14 => .op (.bin 0 .lss v14 (AV.int .i64 0)) fun v15 => .ite v15 (.fin [.val (AV.int .i64 (-1))]) (.fin [.val v14])))
theorem c_laws_szPol (x0 x1 : AV) : CC Tryz.prog n_laws_szPol [x0, x1] (p_laws_szPol x0 x1) := cc Tryz.func101 [] (fun _ => []) (by kernel_rfl)
/- laws.toPolS -/
def p_laws_toPolS (x0 : AV) : Prog := .op (.len 0 x0) fun v1 => .op (.mksl 5 72 z5_5ed v1 v1) fun v2 => .loop [AV.int .i64 0] (fun vs3 => .op (.len 0 x0) fun v5 => .op (.bin 0 .lss (g vs3 0) v5) fun v6 => .ite v6 (.op (.idx 5 x0 (g vs3 0)) fun v7 => .op (.ldn 5 v7) fun v8 => .op (.call n_laws_toPol [v8]) fun v9 => .op (.idx 5 v2 (g vs3 0)) fun v10 => .op (.st 5 v10 v9) fun v11 => .op (.bin 0 .add (g vs3 0) (AV.int .i64 1)) fun v12 => .leaf 0 [v12]) (.leaf 2 [g vs3 0])) fun t4 vs3 => tsel t4 1 (.leaf 1 vs3) (tsel t4 2 (.fin [.val v2]) .bad)
theorem c_laws_toPolS (x0 : AV) : CC Tryz.prog n_laws_toPolS [x0] (p_laws_toPolS x0) := cc Tryz.func206 [0, 3, 4] (fun _ => []) (by kernel_rfl)
/- laws.eqPolS -/
def p_laws_eqPolS (x0 x1 : AV) : Prog := .op (.len 0 x0) fun v1 => .op (.len 0 x1) fun v2 => .op (.bin 0 .neq v1 v2) fun v3 => .ite v3 (.fin [.val (AV.bool false)]) (.loop [AV.int .i64 0] (fun vs4 => .op (.len 0 x0) fun v6 => .op (.bin 0 .lss (g vs4 0) v6) fun v7 => .ite v7 (.op (.idx 5 x0 (g vs4 0)) fun v8 => .op (.ldn 5 v8) fun v9 => .op (.idx 5 x1 (g vs4 0)) fun v10 => .op (.ldn 5 v10) fun v11 => .op (.call n_laws_eqPol [v9, v11]) fun v12 => .op (.una .not v12) fun v13 => .ite v13 (.fin [.val (AV.bool false)]) (.op (.bin 0 .add (g vs4 0) (AV.int .i64 1)) fun v14 => .leaf 0 [v14])) (.leaf 2 [g vs4 0])) fun t5 vs4 => tsel t5 1 (.leaf 1 vs4) (tsel t5 2 (.fin [.val (AV.bool true)]) .bad))
theorem c_laws_eqPolS (x0 x1 : AV) : CC Tryz.prog n_laws_eqPolS [x0, x1] (p_laws_eqPolS x0 x1) := cc Tryz.func240 [0, 1, 5] (fun r => if r = 6 then [(0, []), (1, []), (2, []), (3, []), (4, []), (5, []), (6, []), (7, []), (8, []), (9, [])] else []) (by kernel_rfl)
/- laws.szPolS -/
def p_laws_szPolS (x0 x1 : AV) : Prog := .op (.len 0 x0) fun v1 => .op (.bin 0 .sub x1 v1) fun v2 => .op (.bin 0 .lss v2 (AV.int .i64 0)) fun v3 => .ite v3 (.fin [.val (AV.int .i64 (-1))]) (.loop [v2, AV.int .i64 0] (fun vs4 => .op (.len 0 x0) fun v6 => .op (.bin 0 .lss (g vs4 1) v6) fun v7 => .ite v7 (.op (.idx 5 x0 (g vs4 1)) fun v8 => .op (.ldn 5 v8) fun v9 => .op (.call n_laws_szPol [v9, g vs4 0]) fun v10 => .op (.bin 0 .lss v10 (AV.int .i64 0)) fun v11 => .ite v11 (.fin [.val (AV.int .i64 (-1))]) (.op (.bin 0 .add (g vs4 1) (AV.int .i64 1)) fun v12 => .leaf 0 [v10, v12])) (.leaf 2 [g vs4 0, g vs4 1])) fun t5 vs4 => tsel t5 1 (.leaf 1 vs4) (tsel t5 2 (.fin [.val (g vs4 0)]) .bad))
theorem c_laws_szPolS (x0 x1 : AV) : CC Tryz.prog n_laws_szPolS [x0, x1] (p_laws_szPolS x0 x1) := cc Tryz.func183 [0, 1, 5] (fun _ => []) (by kernel_rfl)
end
theorem pol_lt {x y : Pol} (h : y ∈ x.l) : SizeOf.sizeOf y < SizeOf.sizeOf x := by
  cases x with
  | mk k n s t l =>
    have := List.sizeOf_lt_of_mem (show y ∈ l from h)
    simp only [Pol.mk.sizeOf_spec]; omega
theorem pol_ind {p : Pol → Prop} (step : ∀ x, (∀ y ∈ x.l, p y) → p x) : ∀ x, p x := fun x =>
  step x fun y hy => pol_ind step y
termination_by x => SizeOf.sizeOf x
decreasing_by exact pol_lt hy

theorem toPols {xs : List Pol} (hc : ∀ x ∈ xs, CopyX Pol Tryz.prog n_laws_toPol x) (hs : xs.length + szs xs ≤ 1048576) : CopyL Tryz.prog n_laws_toPolS xs := by
  intro v F h r
  refine c_laws_toPolS _ (toSx_spec rfl rfl rfl hc r ?_)
  omega
theorem s_laws_toPol (x : Pol) : Sz.sz x ≤ 1048576 → CopyX Pol Tryz.prog n_laws_toPol x := by
  refine pol_ind (p := fun x => Sz.sz x ≤ 1048576 → CopyX Pol Tryz.prog n_laws_toPol x) ?_ x
  intro x ih hs cs F h r
  rw [Pol.sz_eq] at hs
  rw [Pol.rep_iff] at r
  obtain ⟨v0, rfl, r0⟩ := r
  have hc := toPols (xs := x.l) (fun y hy => ih y hy (by have := szs_mem hy; omega)) (by omega)
  refine c_laws_toPol _ ?_
  unfold p_laws_toPol
  have s_laws_toPolS := hc
  (repeat' first|refine vs ?_|(refine br ?_ ?_<;>intro _<;>try(exfalso;first|omega|contradiction))|((with_reducible refine g_callf n_laws_toPolS ?_);(refine aw_call (s_laws_toPolS _ _ _ slr_auto) ?_; rintro _ _ ⟨e_, _, _, _⟩; have n_ := e_.1; (try simp only [push_n, upd_n] at n_)))|((with_reducible refine g_idx ?_);((first|refine ix ?_|refine ixi ?_|(refine ixg ?_;intro _ _)|(refine ixgi ?_;intro _ _));first|rintro _ _ _ _ _ ⟨rfl,rfl⟩ _|rintro _ _ _ _ _ ⟨_,rfl,_⟩ _|rintro _ _ _ _ _ ⟨_,_,_,_,rfl,rfl,_,_⟩ _|intro _ _ _ _ _ _ _))|(refine sx ?_;intro _ _)|((with_reducible refine g_awp ?_);simp only [g0,g1,g2]))
  exact ⟨rfl, _, rfl, ext_auto, _, _, rfl, Pol.rep_iff.2 ⟨_, rfl, slr_auto⟩, ol_auto⟩
theorem s_laws_toPolS (xs : List Pol) (hs : xs.length + szs xs ≤ 1048576) : CopyL Tryz.prog n_laws_toPolS xs := toPols (fun x hx => s_laws_toPol x (by have := szs_mem hx; omega)) hs

theorem eqPols {xs : List Pol} (hc : ∀ x ∈ xs, EqX Pol Tryz.prog n_laws_eqPol x) (v v' : AV) (F F' : List Nat) (h : AH) (r : SlRep h v xs F) (r' : SlRep h v' xs F') : RCalls Tryz.prog n_laws_eqPolS [v, v'] h (.bool true) :=
  reader (c_laws_eqPolS _ _) (by simp only [old]) (eqSx_spec rfl hc r r')
theorem s_laws_eqPol : EqC Pol Tryz.prog n_laws_eqPol := by
  refine pol_ind ?_
  intro x ih cs cs' F F' h r r'
  rw [Pol.rep_iff] at r r'
  obtain ⟨v0, rfl, r0⟩ := r
  obtain ⟨u0, rfl, q0⟩ := r'
  have s_laws_eqPolS := eqPols ih
  refine reader (c_laws_eqPol _ _) (by simp only [old]) ?_
  unfold p_laws_eqPol
  (repeat' first|refine vs ?_|(refine br ?_ ?_<;>intro _<;>try(exfalso;first|omega|contradiction))|((with_reducible refine g_callf n_laws_eqPolS ?_);refine aw_rcall (s_laws_eqPolS _ _ _ _ _ slr_auto slr_auto) ?_)|((with_reducible refine g_idx ?_);((first|refine ix ?_|refine ixi ?_|(refine ixg ?_;intro _ _)|(refine ixgi ?_;intro _ _));first|rintro _ _ _ _ _ ⟨rfl,rfl⟩ _|rintro _ _ _ _ _ ⟨_,rfl,_⟩ _|rintro _ _ _ _ _ ⟨_,_,_,_,rfl,rfl,_,_⟩ _|intro _ _ _ _ _ _ _))|(refine sx ?_;intro _ _)|((with_reducible refine g_awp ?_);simp only [g0,g1,g2]))
  exact pb rfl
theorem s_laws_eqPolS : EqS Pol Tryz.prog n_laws_eqPolS := fun xs v v' F F' h r r' => eqPols (fun x _ => s_laws_eqPol x) v v' F F' h r r'

theorem szPols {xs : List Pol} (hc : ∀ x ∈ xs, SzX Pol Tryz.prog n_laws_szPol x) (ok : ∀ x ∈ xs, Cel.ok x) (v : AV) (F : List Nat) (b : Int) (h : AH) (r : SlRep h v xs F) (h0 : 0 ≤ b) (h1 : b ≤ 1048576) : RCalls Tryz.prog n_laws_szPolS [v, .int .i64 b] h (.int .i64 (szr b (xs.length + szs xs))) :=
  reader (c_laws_szPolS _ _) (by simp only [old]) (szSx_spec rfl hc ok r h0 h1)
theorem s_laws_szPol : SzC Pol Tryz.prog n_laws_szPol := by
  refine pol_ind ?_
  intro x ih ok cs F b h r h0 h1
  have hS := Pol.sz_eq x
  rw [Pol.rep_iff] at r
  obtain ⟨v0, rfl, r0⟩ := r
  have okl : ∀ y ∈ x.l, Cel.ok y := by
    cases x with
    | mk k n s t l => exact Pol.oks_iff.1 ok.2.2.2.2
  have ok1 : x.key.size ≤ 9223372036854775807 := by cases x with
    | mk k n s t l => exact ok.2.2.1
  have ok2 : x.text.size ≤ 9223372036854775807 := by cases x with
    | mk k n s t l => exact ok.2.2.2.1
  have s_laws_szPolS := szPols ih okl
  refine reader (c_laws_szPol _ _) (by simp only [old]) ?_
  unfold p_laws_szPol
  (repeat' first|refine vs ?_|(refine br ?_ ?_<;>intro _<;>try(exfalso;first|omega|contradiction))|((with_reducible refine g_callf n_laws_szPolS ?_);(refine aw_sz (s_laws_szPolS _ _ _ _ slr_auto om_auto om_auto) (fun _ => ?_) (fun _ => ?_)))|((with_reducible refine g_idx ?_);((first|refine ix ?_|refine ixi ?_|(refine ixg ?_;intro _ _)|(refine ixgi ?_;intro _ _));first|rintro _ _ _ _ _ ⟨rfl,rfl⟩ _|rintro _ _ _ _ _ ⟨_,rfl,_⟩ _|rintro _ _ _ _ _ ⟨_,_,_,_,rfl,rfl,_,_⟩ _|intro _ _ _ _ _ _ _))|(refine sx ?_;intro _ _)|((with_reducible refine g_awp ?_);simp only [g0,g1,g2]))
  all_goals (refine pi ?_; unfold szr; split <;> omega)
theorem s_laws_szPolS : SzL Pol Tryz.prog n_laws_szPolS := fun xs ok v F b h r h0 h1 => szPols (fun x _ => s_laws_szPol x) ok v F b h r h0 h1
end Go.Proofs.YtjnekdbdmoibgaaGreat
end
section
/- Trails and items. -/
set_option linter.unusedSimpArgs false
set_option linter.unusedVariables false
namespace Go.Proofs.YtjnekdbdmoibgaaGreat
open Go Go.Ab
section
/- impl.BytesOf -/
def p_impl_BytesOf (x0 : AV) : Prog := .op (.box x0) fun v1 => .op (.fad 3 v1) fun v2 => .op (.ld1 v2) fun v3 => .op (.call n_impl_TotalOf [v3]) fun v4 => .fin [.val v4]
theorem c_impl_BytesOf (x0 : AV) : CC Tryz.prog n_impl_BytesOf [x0] (p_impl_BytesOf x0) := cc Tryz.func238 [] (fun _ => []) (by kernel_rfl)
/- spec.BytesOf -/
def p_spec_BytesOf (x0 : AV) : Prog := .op (.box x0) fun v1 => .op (.fad 3 v1) fun v2 => .op (.ld1 v2) fun v3 => .op (.call n_spec_TotalOf [v3]) fun v4 => .fin [.val v4]
theorem c_spec_BytesOf (x0 : AV) : CC Tryz.prog n_spec_BytesOf [x0] (p_spec_BytesOf x0) := cc Tryz.func192 [] (fun _ => []) (by kernel_rfl)
/- impl.TrailAt -/
/- spec.TrailAt -/
/- impl.TrailAt$1 -/
/- slices.IndexFunc[[]impl.Trail,impl.Trail] -/
/- impl.ItemOk -/
def p_impl_ItemOk (x0 : AV) : Prog := .op (.box x0) fun v1 => .op (.fad 0 v1) fun v2 => .op (.ld1 v2) fun v3 => .op (.bin 0 .geq v3 (AV.int .i64 1)) fun v4 => .gop v4 true (.fad 1 v1) fun v5 => .gop v4 true (.ldn 6 v5) fun v6 => .gop v4 true (.call n_impl_SpanOk [v6]) fun v7 => .op (.pick v4 v7 (AV.bool false)) fun v8 => .fin [.val v8]
theorem c_impl_ItemOk (x0 : AV) : CC Tryz.prog n_impl_ItemOk [x0] (p_impl_ItemOk x0) := cc Tryz.func288 [] (fun _ => []) (by kernel_rfl)
/- spec.ItemOk -/
def p_spec_ItemOk (x0 : AV) : Prog := .op (.box x0) fun v1 => .op (.fad 0 v1) fun v2 => .op (.ld1 v2) fun v3 => .op (.bin 0 .geq v3 (AV.int .i64 1)) fun v4 => .gop v4 true (.fad 1 v1) fun v5 => .gop v4 true (.ldn 6 v5) fun v6 => .gop v4 true (.call n_spec_SpanOk [v6]) fun v7 => .op (.pick v4 v7 (AV.bool false)) fun v8 => .fin [.val v8]
theorem c_spec_ItemOk (x0 : AV) : CC Tryz.prog n_spec_ItemOk [x0] (p_spec_ItemOk x0) := cc Tryz.func120 [] (fun _ => []) (by kernel_rfl)
/- impl.SameItem -/
def p_impl_SameItem (x0 x1 : AV) : Prog := .op (.box x0) fun v1 => .op (.box x1) fun v2 => .op (.fad 0 v1) fun v3 => .op (.ld1 v3) fun v4 => .op (.fad 0 v2) fun v5 => .op (.ld1 v5) fun v6 => .op (.bin 0 .eql v4 v6) fun v7 => .gop v7 true (.fad 1 v1) fun v8 => .gop v7 true (.ldn 6 v8) fun v9 => .gop v7 true (.fad 1 v2) fun v10 => .gop v7 true (.ldn 6 v10) fun v11 => .gop v7 true (.call n_impl_SameSpan [v9, v11]) fun v12 => .op (.pick v7 v12 (AV.bool false)) fun v13 => .fin [.val v13]
theorem c_impl_SameItem (x0 x1 : AV) : CC Tryz.prog n_impl_SameItem [x0, x1] (p_impl_SameItem x0 x1) := cc Tryz.func335 [] (fun _ => []) (by kernel_rfl)
end
theorem s_impl_BytesOf {h : AH} {t : Trail} {v : AV} {F : List Nat} (hs : Sz.sz t ≤ 67108864) (r : SlRep h v t.spans F) : RCalls Tryz.prog n_impl_BytesOf [.agg (t.cs v)] h (.int .i64 (sumI spanSize t.spans)) := by
  refine reader (c_impl_BytesOf _) (by simp only [old]) ?_
  unfold p_impl_BytesOf
  (repeat' first|refine vs ?_|(refine br ?_ ?_<;>intro _<;>try(exfalso;first|omega|contradiction))|((with_reducible refine g_callf n_impl_TotalOf ?_);refine aw_rcall (s_impl_TotalOf hs slr_auto) ?_)|((with_reducible refine g_idx ?_);((first|refine ix ?_|refine ixi ?_|(refine ixg ?_;intro _ _)|(refine ixgi ?_;intro _ _));first|rintro _ _ _ _ _ ⟨rfl,rfl⟩ _|rintro _ _ _ _ _ ⟨_,rfl,_⟩ _|rintro _ _ _ _ _ ⟨_,_,_,_,rfl,rfl,_,_⟩ _|intro _ _ _ _ _ _ _))|(refine sx ?_;intro _ _)|((with_reducible refine g_awp ?_);simp only [g0,g1,g2]))
  exact pi rfl
theorem s_spec_BytesOf {h : AH} {t : Trail} {v : AV} {F : List Nat} (hs : Sz.sz t ≤ 67108864) (r : SlRep h v t.spans F) : RCalls Tryz.prog n_spec_BytesOf [.agg (t.cs v)] h (.int .i64 (sumI spanSize t.spans)) := by
  refine reader (c_spec_BytesOf _) (by simp only [old]) ?_
  unfold p_spec_BytesOf
  (repeat' first|refine vs ?_|(refine br ?_ ?_<;>intro _<;>try(exfalso;first|omega|contradiction))|((with_reducible refine g_callf n_spec_TotalOf ?_);refine aw_rcall (s_spec_TotalOf hs slr_auto) ?_)|((with_reducible refine g_idx ?_);((first|refine ix ?_|refine ixi ?_|(refine ixg ?_;intro _ _)|(refine ixgi ?_;intro _ _));first|rintro _ _ _ _ _ ⟨rfl,rfl⟩ _|rintro _ _ _ _ _ ⟨_,rfl,_⟩ _|rintro _ _ _ _ _ ⟨_,_,_,_,rfl,rfl,_,_⟩ _|intro _ _ _ _ _ _ _))|(refine sx ?_;intro _ _)|((with_reducible refine g_awp ?_);simp only [g0,g1,g2]))
  exact pi rfl

def itemOk (x : Itm) : Prop := 1 ≤ x.stamp ∧ spanOk x.s
theorem s_impl_ItemOk {h : AH} {x : Itm} {v : AV} {F : List Nat} (ok : Cel.ok x.s) (hs : Sz.sz x ≤ 67108864) (r : SlRep h v x.s.attrs F) : RCalls Tryz.prog n_impl_ItemOk [.agg (x.cs v)] h (.bool (bp (itemOk x))) := by
  refine reader (c_impl_ItemOk _) (by simp only [old]) ?_
  unfold p_impl_ItemOk
  (repeat' first|refine vs ?_|(refine br ?_ ?_<;>intro _<;>try(exfalso;first|omega|contradiction))|((with_reducible refine g_callf n_impl_SpanOk ?_);(refine aw_rcall_b (s_impl_SpanOk ok hs slr_auto) ?_ ?_ <;> intro hn <;> first | replace hn := bp_true hn | replace hn := bp_false hn))|((with_reducible refine g_idx ?_);((first|refine ix ?_|refine ixi ?_|(refine ixg ?_;intro _ _)|(refine ixgi ?_;intro _ _));first|rintro _ _ _ _ _ ⟨rfl,rfl⟩ _|rintro _ _ _ _ _ ⟨_,rfl,_⟩ _|rintro _ _ _ _ _ ⟨_,_,_,_,rfl,rfl,_,_⟩ _|intro _ _ _ _ _ _ _))|(refine sx ?_;intro _ _)|((with_reducible refine g_awp ?_);simp only [g0,g1,g2]))
  all_goals first
    | exact pt ⟨by omega, by assumption⟩
    | exact pf fun k => by obtain ⟨a1, a2⟩ := k; first | omega | contradiction
theorem s_spec_ItemOk {h : AH} {x : Itm} {v : AV} {F : List Nat} (ok : Cel.ok x.s) (hs : Sz.sz x ≤ 67108864) (r : SlRep h v x.s.attrs F) : RCalls Tryz.prog n_spec_ItemOk [.agg (x.cs v)] h (.bool (bp (itemOk x))) := by
  refine reader (c_spec_ItemOk _) (by simp only [old]) ?_
  unfold p_spec_ItemOk
  (repeat' first|refine vs ?_|(refine br ?_ ?_<;>intro _<;>try(exfalso;first|omega|contradiction))|((with_reducible refine g_callf n_spec_SpanOk ?_);(refine aw_rcall_b (s_spec_SpanOk ok hs slr_auto) ?_ ?_ <;> intro hn <;> first | replace hn := bp_true hn | replace hn := bp_false hn))|((with_reducible refine g_idx ?_);((first|refine ix ?_|refine ixi ?_|(refine ixg ?_;intro _ _)|(refine ixgi ?_;intro _ _));first|rintro _ _ _ _ _ ⟨rfl,rfl⟩ _|rintro _ _ _ _ _ ⟨_,rfl,_⟩ _|rintro _ _ _ _ _ ⟨_,_,_,_,rfl,rfl,_,_⟩ _|intro _ _ _ _ _ _ _))|(refine sx ?_;intro _ _)|((with_reducible refine g_awp ?_);simp only [g0,g1,g2]))
  all_goals first
    | exact pt ⟨by omega, by assumption⟩
    | exact pf fun k => by obtain ⟨a1, a2⟩ := k; first | omega | contradiction
theorem s_impl_SameItem {h : AH} {a b : Itm} {v v' : AV} {F F' : List Nat} (r : SlRep h v a.s.attrs F) (r' : SlRep h v' b.s.attrs F') : RCalls Tryz.prog n_impl_SameItem [.agg (a.cs v), .agg (b.cs v')] h (.bool (bp (a = b))) := by
  refine reader (c_impl_SameItem _ _) (by simp only [old]) ?_
  unfold p_impl_SameItem
  (repeat' first|refine vs ?_|(refine br ?_ ?_<;>intro _<;>try(exfalso;first|omega|contradiction))|((with_reducible refine g_callf n_impl_SameSpan ?_);(refine aw_rcall_b (s_impl_SameSpan (a := a.s) (b := b.s) slr_auto slr_auto) ?_ ?_ <;> intro hn <;> first | replace hn := bp_true hn | replace hn := bp_false hn))|((with_reducible refine g_idx ?_);((first|refine ix ?_|refine ixi ?_|(refine ixg ?_;intro _ _)|(refine ixgi ?_;intro _ _));first|rintro _ _ _ _ _ ⟨rfl,rfl⟩ _|rintro _ _ _ _ _ ⟨_,rfl,_⟩ _|rintro _ _ _ _ _ ⟨_,_,_,_,rfl,rfl,_,_⟩ _|intro _ _ _ _ _ _ _))|(refine sx ?_;intro _ _)|((with_reducible refine g_awp ?_);simp only [g0,g1,g2]))
  all_goals first
    | (refine pf ?_; rintro rfl; first | contradiction | (simp_all; done))
    | (refine pt ?_; cases a; cases b; simp_all; done)
end Go.Proofs.YtjnekdbdmoibgaaGreat
end
section
/- Deeds and tasks: the small functions. -/
set_option linter.unusedSimpArgs false
set_option linter.unusedVariables false
set_option maxHeartbeats 1000000
namespace Go.Proofs.YtjnekdbdmoibgaaGreat
open Go Go.Ab
section
/- impl.DeedOk -/
def p_impl_DeedOk (x0 : AV) : Prog := .op (.box x0) fun v1 => .op (.fad 0 v1) fun v2 => .op (.ld1 v2) fun v3 => .op (.call n_impl_within [v3, AV.int .i64 1, AV.int .i64 4]) fun v4 => .op (.una .not v4) fun v5 => .gop v5 false (.fad 17 v1) fun v6 => .gop v5 false (.ld1 v6) fun v7 => .gop v5 false (.bin 0 .lss v7 (AV.int .i64 0)) fun v8 => .op (.pick v5 (AV.bool true) v8) fun v9 => .gop v9 false (.fad 13 v1) fun v10 => .gop v9 false (.ld1 v10) fun v11 => .gop v9 false (.fad 14 v1) fun v12 => .gop v9 false (.ld1 v12) fun v13 => .gop v9 false (.fad 15 v1) fun v14 => .gop v9 false (.ld1 v14) fun v15 => .gop v9 false (.fad 16 v1) fun v16 => .gop v9 false (.ld1 v16) fun v17 => .gop v9 false (.mnx true [v11, v13, v15, v17]) fun v18 => .gop v9 false (.bin 0 .lss v18 (AV.int .i64 0)) fun v19 => .op (.pick v9 (AV.bool true) v19) fun v20 => .ite v20 (.fin [.val (AV.bool false)]) (.op (.fad 0 v1) fun v21 => .op (.ld1 v21) fun v22 => .op (.bin 0 .eql v22 (AV.int .i64 1)) fun v23 => .gop v23 true (.fad 18 v1) fun v24 => .gop v23 true (.ld1 v24) fun v25 => .gop v23 true (.bin 0 .neq v25 (AV.int .i64 (-1))) fun v26 => .op (.pick v23 v26 (AV.bool false)) fun v27 => .scope (.ite v27 (.op (.fad 10 v1) fun v28 => .op (.ld1 v28) fun v29 => .op (.call n_impl_within [v29, AV.int .i64 1, AV.int .i64 5]) fun v30 => .op (.una .not v30) fun v31 => .ite v31 (.fin [.val (AV.bool false)]) (.leaf 0 [])) (.op (.fad 10 v1) fun v32 => .op (.ld1 v32) fun v33 => .op (.bin 0 .neq v33 (AV.int .i64 0)) fun v34 => .ite v34 (.fin [.val (AV.bool false)]) (.leaf 0 []))) (fun vs35 => .op (.fad 18 v1) fun v37 => .op (.ld1 v37) fun v38 => .op (.bin 0 .eql v38 (AV.int .i64 (-1))) fun v39 => .gop v39 false (.fad 18 v1) fun v40 => .gop v39 false (.ld1 v40) fun v41 => .gop v39 false (.fad 17 v1) fun v42 => .gop v39 false (.ld1 v42) fun v43 => .gop v39 false (.bin 0 .geq v41 v43) fun v44 => .op (.pick v39 (AV.bool true) v44) fun v45 => .gop v45 true (.fad 19 v1) fun v46 => .gop v45 true (.ld1 v46) fun v47 => .gop v45 true (.bin 0 .eql v47 (AV.int .i64 (-1))) fun v48 => .gop v45 true (.mv v48) fun v49 => .gop v49 false (.fad 18 v1) fun v50 => .gop v49 false (.ld1 v50) fun v51 => .gop v49 false (.bin 0 .neq v51 (AV.int .i64 (-1))) fun v52 => .gop v49 false (.mv v52) fun v53 => .gop v53 true (.fad 19 v1) fun v54 => .gop v53 true (.ld1 v54) fun v55 => .gop v53 true (.fad 18 v1) fun v56 => .gop v53 true (.ld1 v56) fun v57 => .gop v53 true (.bin 0 .geq v55 v57) fun v58 => .gop v49 false (.pick v53 v58 (AV.bool false)) fun v59 => .gop v45 true (.pick v49 (AV.bool true) v59) fun v60 => .op (.pick v45 v60 (AV.bool false)) fun v61 => .fin [.val v61]) fun t36 vs35 => tsel t36 1 (.leaf 1 vs35) .bad)
theorem c_impl_DeedOk (x0 : AV) : CC Tryz.prog n_impl_DeedOk [x0] (p_impl_DeedOk x0) := cc Tryz.func219 [1] (fun _ => []) (by kernel_rfl)
/- spec.DeedOk -/
def p_spec_DeedOk (x0 : AV) : Prog := .op (.box x0) fun v1 => .op (.fad 0 v1) fun v2 => .op (.ld1 v2) fun v3 => .op (.call n_spec_l1In [v3, AV.int .i64 1, AV.int .i64 4]) fun v4 => .op (.una .not v4) fun v5 => .gop v5 false (.fad 17 v1) fun v6 => .gop v5 false (.ld1 v6) fun v7 => .gop v5 false (.bin 0 .lss v7 (AV.int .i64 0)) fun v8 => .op (.pick v5 (AV.bool true) v8) fun v9 => .gop v9 false (.fad 13 v1) fun v10 => .gop v9 false (.ld1 v10) fun v11 => .gop v9 false (.bin 0 .lss v11 (AV.int .i64 0)) fun v12 => .op (.pick v9 (AV.bool true) v12) fun v13 => .gop v13 false (.fad 14 v1) fun v14 => .gop v13 false (.ld1 v14) fun v15 => .gop v13 false (.bin 0 .lss v15 (AV.int .i64 0)) fun v16 => .op (.pick v13 (AV.bool true) v16) fun v17 => .gop v17 false (.fad 15 v1) fun v18 => .gop v17 false (.ld1 v18) fun v19 => .gop v17 false (.bin 0 .lss v19 (AV.int .i64 0)) fun v20 => .op (.pick v17 (AV.bool true) v20) fun v21 => .gop v21 false (.fad 16 v1) fun v22 => .gop v21 false (.ld1 v22) fun v23 => .gop v21 false (.bin 0 .lss v23 (AV.int .i64 0)) fun v24 => .op (.pick v21 (AV.bool true) v24) fun v25 => .ite v25 (.fin [.val (AV.bool false)]) (.op (.fad 18 v1) fun v26 => .op (.ld1 v26) fun v27 => .op (.bin 0 .neq v27 (AV.int .i64 (-1))) fun v28 => .gop v28 true (.fad 18 v1) fun v29 => .gop v28 true (.ld1 v29) fun v30 => .gop v28 true (.fad 17 v1) fun v31 => .gop v28 true (.ld1 v31) fun v32 => .gop v28 true (.bin 0 .lss v30 v32) fun v33 => .op (.pick v28 v33 (AV.bool false)) fun v34 => .gop v34 false (.fad 19 v1) fun v35 => .gop v34 false (.ld1 v35) fun v36 => .gop v34 false (.bin 0 .neq v36 (AV.int .i64 (-1))) fun v37 => .gop v34 false (.mv v37) fun v38 => .gop v38 true (.fad 18 v1) fun v39 => .gop v38 true (.ld1 v39) fun v40 => .gop v38 true (.bin 0 .eql v40 (AV.int .i64 (-1))) fun v41 => .gop v38 true (.mv v41) fun v42 => .gop v42 false (.fad 19 v1) fun v43 => .gop v42 false (.ld1 v43) fun v44 => .gop v42 false (.fad 18 v1) fun v45 => .gop v42 false (.ld1 v45) fun v46 => .gop v42 false (.bin 0 .lss v44 v46) fun v47 => .gop v38 true (.pick v42 (AV.bool true) v47) fun v48 => .gop v34 false (.pick v38 v48 (AV.bool false)) fun v49 => .op (.pick v34 (AV.bool true) v49) fun v50 => .ite v50 (.fin [.val (AV.bool false)]) (.op (.fad 0 v1) fun v51 => .op (.ld1 v51) fun v52 => .op (.bin 0 .eql v52 (AV.int .i64 1)) fun v53 => .gop v53 true (.fad 18 v1) fun v54 => .gop v53 true (.ld1 v54) fun v55 => .gop v53 true (.bin 0 .neq v55 (AV.int .i64 (-1))) fun v56 => .op (.pick v53 v56 (AV.bool false)) fun v57 => .ite v57 (.op (.fad 10 v1) fun v58 => .op (.ld1 v58) fun v59 => .op (.call n_spec_l1In [v59, AV.int .i64 1, AV.int .i64 5]) fun v60 => .fin [.val v60]) (.op (.fad 10 v1) fun v61 => .op (.ld1 v61) fun v62 => .op (.bin 0 .eql v62 (AV.int .i64 0)) fun v63 => .fin [.val v63])))
theorem c_spec_DeedOk (x0 : AV) : CC Tryz.prog n_spec_DeedOk [x0] (p_spec_DeedOk x0) := cc Tryz.func121 [] (fun _ => []) (by kernel_rfl)
/- impl.HoldsRule -/
def p_impl_HoldsRule (x0 : AV) : Prog := .op (.box x0) fun v1 => .op (.fad 0 v1) fun v2 => .op (.ld1 v2) fun v3 => .op (.bin 0 .eql v3 (AV.int .i64 2)) fun v4 => .gop v4 true (.fad 1 v1) fun v5 => .gop v4 true (.ld1 v5) fun v6 => .gop v4 true (.bin 0 .eql v6 (AV.int .i64 2)) fun v7 => .op (.pick v4 v7 (AV.bool false)) fun v8 => .fin [.val v8]
theorem c_impl_HoldsRule (x0 : AV) : CC Tryz.prog n_impl_HoldsRule [x0] (p_impl_HoldsRule x0) := cc Tryz.func223 [] (fun _ => []) (by kernel_rfl)
/- spec.HoldsRule -/
def p_spec_HoldsRule (x0 : AV) : Prog := .op (.box x0) fun v1 => .op (.fad 0 v1) fun v2 => .op (.ld1 v2) fun v3 => .op (.bin 0 .eql v3 (AV.int .i64 2)) fun v4 => .gop v4 true (.fad 1 v1) fun v5 => .gop v4 true (.ld1 v5) fun v6 => .gop v4 true (.bin 0 .eql v6 (AV.int .i64 2)) fun v7 => .op (.pick v4 v7 (AV.bool false)) fun v8 => .fin [.val v8]
theorem c_spec_HoldsRule (x0 : AV) : CC Tryz.prog n_spec_HoldsRule [x0] (p_spec_HoldsRule x0) := cc Tryz.func199 [] (fun _ => []) (by kernel_rfl)
/- impl.Deadline -/
/- spec.Deadline -/
end
def deedOk (d : Deed) : Prop := (1 ≤ d.op ∧ d.op ≤ 4) ∧ 0 ≤ d.inv ∧ 0 ≤ d.took ∧ 0 ≤ d.n ∧ 0 ≤ d.forgot ∧ 0 ≤ d.now ∧ ((d.op = 1 ∧ d.lin ≠ -1 ∧ 1 ≤ d.code ∧ d.code ≤ 5) ∨ (¬ (d.op = 1 ∧ d.lin ≠ -1) ∧ d.code = 0)) ∧ (d.lin = -1 ∨ d.inv ≤ d.lin) ∧ (d.res = -1 ∨ (d.lin ≠ -1 ∧ d.lin ≤ d.res))
theorem w_min4 {P : Program} {h : AH} {Q : Nat → List AV → AH → Prop} {k : AV → Prog} {a b c d : Int} (hk : (k (.int .i64 (min (min (min a b) c) d))).awp P h Q) : (Prog.op (.mnx true [.int .i64 a, .int .i64 b, .int .i64 c, .int .i64 d]) k).awp P h Q := by
  simp only [Prog.awp, AOp.go, amnx, amnxGo, if_true]
  have e : ∀ x y : Int, (if y < x then y else x) = min x y := fun x y => by split <;> omega
  simp only [e]
  exact hk
theorem s_impl_DeedOk {h : AH} {d : Deed} {v : AV} : RCalls Tryz.prog n_impl_DeedOk [.agg (d.cs v)] h (.bool (bp (deedOk d))) := by
  refine reader (c_impl_DeedOk _) (by simp only [old]) ?_
  unfold p_impl_DeedOk
  (repeat' first|refine vs ?_|(refine br ?_ ?_<;>intro _<;>try(exfalso;first|omega|contradiction))|((with_reducible refine g_callf n_impl_within ?_);(refine aw_rcall_b s_impl_within ?_ ?_ <;> intro hb <;> first | replace hb := inB_t hb | replace hb := inB_f hb))|((with_reducible refine g_idx ?_);((first|refine ix ?_|refine ixi ?_|(refine ixg ?_;intro _ _)|(refine ixgi ?_;intro _ _));first|rintro _ _ _ _ _ ⟨rfl,rfl⟩ _|rintro _ _ _ _ _ ⟨_,rfl,_⟩ _|rintro _ _ _ _ _ ⟨_,_,_,_,rfl,rfl,_,_⟩ _|intro _ _ _ _ _ _ _))|(refine sx ?_;intro _ _)|((with_reducible refine g_awp ?_);simp only [g0,g1,g2]))
  all_goals first
    | (refine pf ?_; unfold deedOk; omega)
    | skip
  refine w_min4 ?_
  (repeat' first|refine vs ?_|(refine br ?_ ?_<;>intro _<;>try(exfalso;first|omega|contradiction))|((with_reducible refine g_callf n_impl_within ?_);(refine aw_rcall_b s_impl_within ?_ ?_ <;> intro hb <;> first | replace hb := inB_t hb | replace hb := inB_f hb))|((with_reducible refine g_idx ?_);((first|refine ix ?_|refine ixi ?_|(refine ixg ?_;intro _ _)|(refine ixgi ?_;intro _ _));first|rintro _ _ _ _ _ ⟨rfl,rfl⟩ _|rintro _ _ _ _ _ ⟨_,rfl,_⟩ _|rintro _ _ _ _ _ ⟨_,_,_,_,rfl,rfl,_,_⟩ _|intro _ _ _ _ _ _ _))|(refine sx ?_;intro _ _)|((with_reducible refine g_awp ?_);simp only [g0,g1,g2]))
  all_goals first
    | (refine pt ?_; unfold deedOk; omega)
    | (refine pf ?_; unfold deedOk; omega)
theorem s_spec_DeedOk {h : AH} {d : Deed} {v : AV} : RCalls Tryz.prog n_spec_DeedOk [.agg (d.cs v)] h (.bool (bp (deedOk d))) := by
  refine reader (c_spec_DeedOk _) (by simp only [old]) ?_
  unfold p_spec_DeedOk
  (repeat' first|refine vs ?_|(refine br ?_ ?_<;>intro _<;>try(exfalso;first|omega|contradiction))|((with_reducible refine g_callf n_spec_l1In ?_);(refine aw_rcall_b s_spec_l1In ?_ ?_ <;> intro hb <;> first | replace hb := inB_t hb | replace hb := inB_f hb))|((with_reducible refine g_idx ?_);((first|refine ix ?_|refine ixi ?_|(refine ixg ?_;intro _ _)|(refine ixgi ?_;intro _ _));first|rintro _ _ _ _ _ ⟨rfl,rfl⟩ _|rintro _ _ _ _ _ ⟨_,rfl,_⟩ _|rintro _ _ _ _ _ ⟨_,_,_,_,rfl,rfl,_,_⟩ _|intro _ _ _ _ _ _ _))|(refine sx ?_;intro _ _)|((with_reducible refine g_awp ?_);simp only [g0,g1,g2]))
  all_goals first
    | (refine pt ?_; unfold deedOk; omega)
    | (refine pf ?_; unfold deedOk; omega)

theorem s_impl_HoldsRule {h : AH} {t : Task} {v v' : AV} : RCalls Tryz.prog n_impl_HoldsRule [.agg (t.cs v v')] h (.bool (bp (t.op = 2 ∧ t.pc = 2))) := by
  refine reader (c_impl_HoldsRule _) (by simp only [old]) ?_
  unfold p_impl_HoldsRule
  (repeat' first|refine vs ?_|(refine br ?_ ?_<;>intro _<;>try(exfalso;first|omega|contradiction))|((with_reducible refine g_idx ?_);((first|refine ix ?_|refine ixi ?_|(refine ixg ?_;intro _ _)|(refine ixgi ?_;intro _ _));first|rintro _ _ _ _ _ ⟨rfl,rfl⟩ _|rintro _ _ _ _ _ ⟨_,rfl,_⟩ _|rintro _ _ _ _ _ ⟨_,_,_,_,rfl,rfl,_,_⟩ _|intro _ _ _ _ _ _ _))|(refine sx ?_;intro _ _)|((with_reducible refine g_awp ?_);simp only [g0,g1,g2]))
  all_goals first
    | exact pt ⟨by omega, by omega⟩
    | exact pf fun k => by obtain ⟨a1, a2⟩ := k; omega
theorem s_spec_HoldsRule {h : AH} {t : Task} {v v' : AV} : RCalls Tryz.prog n_spec_HoldsRule [.agg (t.cs v v')] h (.bool (bp (t.op = 2 ∧ t.pc = 2))) := by
  refine reader (c_spec_HoldsRule _) (by simp only [old]) ?_
  unfold p_spec_HoldsRule
  (repeat' first|refine vs ?_|(refine br ?_ ?_<;>intro _<;>try(exfalso;first|omega|contradiction))|((with_reducible refine g_idx ?_);((first|refine ix ?_|refine ixi ?_|(refine ixg ?_;intro _ _)|(refine ixgi ?_;intro _ _));first|rintro _ _ _ _ _ ⟨rfl,rfl⟩ _|rintro _ _ _ _ _ ⟨_,rfl,_⟩ _|rintro _ _ _ _ _ ⟨_,_,_,_,rfl,rfl,_,_⟩ _|intro _ _ _ _ _ _ _))|(refine sx ?_;intro _ _)|((with_reducible refine g_awp ?_);simp only [g0,g1,g2]))
  all_goals first
    | exact pt ⟨by omega, by omega⟩
    | exact pf fun k => by obtain ⟨a1, a2⟩ := k; omega

end Go.Proofs.YtjnekdbdmoibgaaGreat
end
section
/- Rules and set-ups that are the same. -/
set_option linter.unusedSimpArgs false
set_option linter.unusedVariables false
set_option maxHeartbeats 1000000
namespace Go.Proofs.YtjnekdbdmoibgaaGreat
open Go Go.Ab
section
end
end Go.Proofs.YtjnekdbdmoibgaaGreat
end
section
/- Stripes of trails; which trails may be; what fits. -/
set_option linter.unusedSimpArgs false
set_option linter.unusedVariables false
set_option maxHeartbeats 1000000
namespace Go.Proofs.YtjnekdbdmoibgaaGreat
open Go Go.Ab
section
/- impl.Mix -/
def p_impl_Mix (x0 : AV) : Prog := .op (.bin 0 .and x0 (AV.int .i64 65535)) fun v1 => .op (.bin 0 .shl v1 (AV.int .u64 7)) fun v2 => .op (.bin 0 .and v2 (AV.int .i64 65535)) fun v3 => .op (.bin 0 .xor v1 v3) fun v4 => .op (.bin 0 .shr v4 (AV.int .u64 9)) fun v5 => .op (.bin 0 .xor v4 v5) fun v6 => .op (.bin 0 .shl v6 (AV.int .u64 8)) fun v7 => .op (.bin 0 .and v7 (AV.int .i64 65535)) fun v8 => .op (.bin 0 .xor v6 v8) fun v9 => .fin [.val v9]
theorem c_impl_Mix (x0 : AV) : CC Tryz.prog n_impl_Mix [x0] (p_impl_Mix x0) := cc Tryz.func228 [] (fun _ => []) (by kernel_rfl)
/- spec.Mix -/
def p_spec_Mix (x0 : AV) : Prog := .op (.bin 0 .and x0 (AV.int .i64 65535)) fun v1 => .op (.bin 0 .shl v1 (AV.int .u64 7)) fun v2 => .op (.bin 0 .xor v1 v2) fun v3 => .op (.bin 0 .and v3 (AV.int .i64 65535)) fun v4 => .op (.bin 0 .shr v4 (AV.int .u64 9)) fun v5 => .op (.bin 0 .xor v4 v5) fun v6 => .op (.bin 0 .shl v6 (AV.int .u64 8)) fun v7 => .op (.bin 0 .xor v6 v7) fun v8 => .op (.bin 0 .and v8 (AV.int .i64 65535)) fun v9 => .fin [.val v9]
theorem c_spec_Mix (x0 : AV) : CC Tryz.prog n_spec_Mix [x0] (p_spec_Mix x0) := cc Tryz.func200 [] (fun _ => []) (by kernel_rfl)
/- impl.StripeOf -/
def p_impl_StripeOf (x0 x1 : AV) : Prog := .op (.bin 0 .lss x1 (AV.int .i64 1)) fun v1 => .ite v1 (.fin [.val (AV.int .i64 0)]) (.op (.call n_impl_Mix [x0]) fun v2 => .op (.bin 0 .rem v2 x1) fun v3 => .fin [.val v3])
theorem c_impl_StripeOf (x0 x1 : AV) : CC Tryz.prog n_impl_StripeOf [x0, x1] (p_impl_StripeOf x0 x1) := cc Tryz.func143 [] (fun _ => []) (by kernel_rfl)
/- spec.StripeOf -/
def p_spec_StripeOf (x0 x1 : AV) : Prog := .op (.bin 0 .lss x1 (AV.int .i64 1)) fun v1 => .ite v1 (.fin [.val (AV.int .i64 0)]) (.op (.call n_spec_Mix [x0]) fun v2 => .op (.bin 0 .rem v2 x1) fun v3 => .fin [.val v3])
theorem c_spec_StripeOf (x0 x1 : AV) : CC Tryz.prog n_spec_StripeOf [x0, x1] (p_spec_StripeOf x0 x1) := cc Tryz.func124 [] (fun _ => []) (by kernel_rfl)
/- impl.HoldsStripe -/
def p_impl_HoldsStripe (x0 x1 : AV) : Prog := .op (.box x0) fun v1 => .op (.bin 0 .lss x1 (AV.int .i64 1)) fun v2 => .ite v2 (.fin [.val (AV.int .i64 (-1))]) (.op (.fad 0 v1) fun v3 => .op (.ld1 v3) fun v4 => .op (.bin 0 .eql v4 (AV.int .i64 1)) fun v5 => .gop v5 true (.fad 1 v1) fun v6 => .gop v5 true (.ld1 v6) fun v7 => .gop v5 true (.bin 0 .eql v7 (AV.int .i64 1)) fun v8 => .op (.pick v5 v8 (AV.bool false)) fun v9 => .ite v9 (.op (.fad 2 v1) fun v10 => .op (.fad 0 v10) fun v11 => .op (.ld1 v11) fun v12 => .op (.call n_impl_StripeOf [v12, x1]) fun v13 => .fin [.val v13]) (.op (.fad 0 v1) fun v14 => .op (.ld1 v14) fun v15 => .op (.bin 0 .eql v15 (AV.int .i64 1)) fun v16 => .gop v16 true (.fad 1 v1) fun v17 => .gop v16 true (.ld1 v17) fun v18 => .gop v16 true (.bin 0 .eql v18 (AV.int .i64 3)) fun v19 => .op (.pick v16 v19 (AV.bool false)) fun v20 => .scope (.ite v20 (.leaf 0 [v20]) (.op (.fad 0 v1) fun v21 => .op (.ld1 v21) fun v22 => .op (.bin 0 .eql v22 (AV.int .i64 2)) fun v23 => .gop v23 true (.fad 1 v1) fun v24 => .gop v23 true (.ld1 v24) fun v25 => .gop v23 true (.bin 0 .eql v25 (AV.int .i64 1)) fun v26 => .gop v23 true (.mv v26) fun v27 => .gop v27 false (.fad 1 v1) fun v28 => .gop v27 false (.ld1 v28) fun v29 => .gop v27 false (.bin 0 .eql v29 (AV.int .i64 2)) fun v30 => .gop v23 true (.pick v27 (AV.bool true) v30) fun v31 => .op (.pick v23 v31 (AV.bool false)) fun v32 => .leaf 0 [v32])) (fun vs33 => .ite (g vs33 0) (.op (.fad 8 v1) fun v35 => .op (.ld1 v35) fun v36 => .op (.call n_impl_StripeOf [v36, x1]) fun v37 => .fin [.val v37]) (.fin [.val (AV.int .i64 (-1))])) fun t34 vs33 => tsel t34 1 (.leaf 1 vs33) .bad))
theorem c_impl_HoldsStripe (x0 x1 : AV) : CC Tryz.prog n_impl_HoldsStripe [x0, x1] (p_impl_HoldsStripe x0 x1) := cc Tryz.func222 [1, 2, 22] (fun _ => []) (by kernel_rfl)
/- spec.HoldsStripe -/
def p_spec_HoldsStripe (x0 x1 : AV) : Prog := .op (.box x0) fun v1 => .op (.bin 0 .lss x1 (AV.int .i64 1)) fun v2 => .ite v2 (.fin [.val (AV.int .i64 (-1))]) (.op (.fad 0 v1) fun v3 => .op (.ld1 v3) fun v4 => .op (.bin 0 .eql v4 (AV.int .i64 1)) fun v5 => .gop v5 true (.fad 1 v1) fun v6 => .gop v5 true (.ld1 v6) fun v7 => .gop v5 true (.bin 0 .eql v7 (AV.int .i64 1)) fun v8 => .op (.pick v5 v8 (AV.bool false)) fun v9 => .ite v9 (.op (.fad 2 v1) fun v10 => .op (.fad 0 v10) fun v11 => .op (.ld1 v11) fun v12 => .op (.call n_spec_StripeOf [v12, x1]) fun v13 => .fin [.val v13]) (.op (.fad 0 v1) fun v14 => .op (.ld1 v14) fun v15 => .op (.bin 0 .eql v15 (AV.int .i64 1)) fun v16 => .gop v16 true (.fad 1 v1) fun v17 => .gop v16 true (.ld1 v17) fun v18 => .gop v16 true (.bin 0 .eql v18 (AV.int .i64 3)) fun v19 => .op (.pick v16 v19 (AV.bool false)) fun v20 => .scope (.ite v20 (.leaf 0 [v20]) (.op (.fad 0 v1) fun v21 => .op (.ld1 v21) fun v22 => .op (.bin 0 .eql v22 (AV.int .i64 2)) fun v23 => .gop v23 true (.fad 1 v1) fun v24 => .gop v23 true (.ld1 v24) fun v25 => .gop v23 true (.bin 0 .eql v25 (AV.int .i64 1)) fun v26 => .gop v23 true (.mv v26) fun v27 => .gop v27 false (.fad 1 v1) fun v28 => .gop v27 false (.ld1 v28) fun v29 => .gop v27 false (.bin 0 .eql v29 (AV.int .i64 2)) fun v30 => .gop v23 true (.pick v27 (AV.bool true) v30) fun v31 => .op (.pick v23 v31 (AV.bool false)) fun v32 => .leaf 0 [v32])) (fun vs33 => .ite (g vs33 0) (.op (.fad 8 v1) fun v35 => .op (.ld1 v35) fun v36 => .op (.call n_spec_StripeOf [v36, x1]) fun v37 => .fin [.val v37]) (.fin [.val (AV.int .i64 (-1))])) fun t34 vs33 => tsel t34 1 (.leaf 1 vs33) .bad))
theorem c_spec_HoldsStripe (x0 x1 : AV) : CC Tryz.prog n_spec_HoldsStripe [x0, x1] (p_spec_HoldsStripe x0 x1) := cc Tryz.func198 [1, 2, 21] (fun _ => []) (by kernel_rfl)
/- impl.TrailOk -/
def p_impl_TrailOk (x0 : AV) : Prog := .op (.box x0) fun v1 => .op (.fad 3 v1) fun v2 => .op (.ld1 v2) fun v3 => .op (.len 0 v3) fun v4 => .loop [AV.int .i64 0] (fun vs5 => .op (.bin 0 .lss (g vs5 0) v4) fun v7 => .ite v7 (.op (.idx 6 v3 (g vs5 0)) fun v8 => .op (.ldn 6 v8) fun v9 => .op (.alloc z6_822) fun v10 => .op (.st 6 v10 v9) fun v11 => .op (.ldn 6 v10) fun v12 => .op (.call n_impl_SpanOk [v12]) fun v13 => .op (.una .not v13) fun v14 => .gop v14 false (.fad 0 v10) fun v15 => .gop v14 false (.ld1 v15) fun v16 => .gop v14 false (.fad 0 v1) fun v17 => .gop v14 false (.ld1 v17) fun v18 => .gop v14 false (.bin 0 .neq v16 v18) fun v19 => .op (.pick v14 (AV.bool true) v19) fun v20 => .ite v20 (.fin [.val (AV.bool false)]) (.op (.bin 0 .add (g vs5 0) (AV.int .i64 1)) fun v21 => .leaf 0 [v21])) (.leaf 2 [g vs5 0])) fun t6 vs5 => tsel t6 1 (.leaf 1 vs5) (tsel t6 2 (.op (.fad 0 v1) fun v22 => .op (.ld1 v22) fun v23 => .op (.call n_impl_within [v23, AV.int .i64 1, AV.int .i64 999]) fun v24 => .gop v24 true (.fad 1 v1) fun v25 => .gop v24 true (.ld1 v25) fun v26 => .gop v24 true (.bin 0 .geq v26 (AV.int .i64 1)) fun v27 => .op (.pick v24 v27 (AV.bool false)) fun v28 => .gop v28 true (.fad 2 v1) fun v29 => .gop v28 true (.ld1 v29) fun v30 => .gop v28 true (.call n_impl_within [v30, AV.int .i64 0, AV.int .i64 2147483647]) fun v31 => .op (.pick v28 v31 (AV.bool false)) fun v32 => .gop v32 true (.fad 3 v1) fun v33 => .gop v32 true (.ld1 v33) fun v34 => .gop v32 true (.len 0 v34) fun v35 => .gop v32 true (.bin 0 .gtr v35 (AV.int .i64 0)) fun v36 => .op (.pick v32 v36 (AV.bool false)) fun v37 => .fin [.val v37]) .bad)
theorem c_impl_TrailOk (x0 : AV) : CC Tryz.prog n_impl_TrailOk [x0] (p_impl_TrailOk x0) := cc Tryz.func283 [1, 6, 7, 8] (fun _ => []) (by kernel_rfl)
/- spec.TrailOk -/
def p_spec_TrailOk (x0 : AV) : Prog := .op (.box x0) fun v1 => .loop [AV.int .i64 0] (fun vs2 => .op (.fad 3 v1) fun v4 => .op (.ld1 v4) fun v5 => .op (.len 0 v5) fun v6 => .op (.bin 0 .lss (g vs2 0) v6) fun v7 => .ite v7 (.op (.fad 3 v1) fun v8 => .op (.ld1 v8) fun v9 => .op (.idx 6 v9 (g vs2 0)) fun v10 => .op (.ldn 6 v10) fun v11 => .op (.call n_spec_SpanOk [v11]) fun v12 => .op (.una .not v12) fun v13 => .gop v13 false (.fad 3 v1) fun v14 => .gop v13 false (.ld1 v14) fun v15 => .gop v13 false (.mv (g vs2 0)) fun v16 => .gop v13 false (.idx 6 v15 v16) fun v17 => .gop v13 false (.fad 0 v17) fun v18 => .gop v13 false (.ld1 v18) fun v19 => .gop v13 false (.fad 0 v1) fun v20 => .gop v13 false (.ld1 v20) fun v21 => .gop v13 false (.bin 0 .neq v19 v21) fun v22 => .op (.pick v13 (AV.bool true) v22) fun v23 => .ite v23 (.fin [.val (AV.bool false)]) (.op (.bin 0 .add (g vs2 0) (AV.int .i64 1)) fun v24 => .leaf 0 [v24])) (.leaf 2 [g vs2 0])) fun t3 vs2 => tsel t3 1 (.leaf 1 vs2) (tsel t3 2 (.op (.fad 0 v1) fun v25 => .op (.ld1 v25) fun v26 => .op (.call n_spec_l1In [v26, AV.int .i64 1, AV.int .i64 999]) fun v27 => .gop v27 true (.fad 1 v1) fun v28 => .gop v27 true (.ld1 v28) fun v29 => .gop v27 true (.bin 0 .geq v29 (AV.int .i64 1)) fun v30 => .op (.pick v27 v30 (AV.bool false)) fun v31 => .gop v31 true (.fad 2 v1) fun v32 => .gop v31 true (.ld1 v32) fun v33 => .gop v31 true (.call n_spec_l1In [v33, AV.int .i64 0, AV.int .i64 2147483647]) fun v34 => .op (.pick v31 v34 (AV.bool false)) fun v35 => .gop v35 true (.fad 3 v1) fun v36 => .gop v35 true (.ld1 v36) fun v37 => .gop v35 true (.len 0 v37) fun v38 => .gop v35 true (.bin 0 .geq v38 (AV.int .i64 1)) fun v39 => .op (.pick v35 v39 (AV.bool false)) fun v40 => .fin [.val v40]) .bad)
theorem c_spec_TrailOk (x0 : AV) : CC Tryz.prog n_spec_TrailOk [x0] (p_spec_TrailOk x0) := cc Tryz.func190 [1, 3] (fun r => if r = 4 then [(0, []), (1, []), (2, []), (3, []), (4, []), (5, []), (6, []), (7, []), (8, []), (9, []), (10, []), (11, []), (12, []), (13, []), (14, []), (15, []), (16, []), (17, [])] else []) (by kernel_rfl)
/- impl.Fits -/
/- spec.Fits -/
end
section
variable {P : Program} {h : AH} {Q : Nat → List AV → AH → Prop} {k : AV → Prog}
theorem bv_nat {p : Nat} (hp : p < 9223372036854775808) : (BitVec.ofInt 64 (p : Int)).toNat = p := by
  rw [BitVec.ofInt_natCast, BitVec.toNat_ofNat]; omega
theorem w_andn {p q : Nat} (hp : p < 9223372036854775808) (hq : q < 9223372036854775808) (hk : (k (.int .i64 ((p &&& q : Nat) : Int))).awp P h Q) : (Prog.op (.bin 0 .and (.int .i64 (p : Int)) (.int .i64 (q : Int))) k).awp P h Q := by
  have e : abin .and (.int .i64 (p : Int)) (.int .i64 (q : Int)) = some (.int .i64 ((p &&& q : Nat) : Int)) := by
    have h1 : (BitVec.ofInt 64 (p : Int) &&& BitVec.ofInt 64 (q : Int)).toNat = p &&& q := by rw [BitVec.toNat_and, bv_nat hp, bv_nat hq]
    have h2 : p &&& q ≤ p := Nat.and_le_left
    show (if IntKind.i64 = IntKind.i64 then some (AV.int .i64 (IntKind.i64.wrap ((BitVec.ofInt 64 (p : Int) &&& BitVec.ofInt 64 (q : Int)).toNat : Int))) else none) = _
    rw [if_pos rfl, h1, wrap_id (by omega) (by omega)]
  simp only [Prog.awp, AOp.go, binOk, e]; exact hk
theorem w_and0 {a : Int} (hk : (k (.int .i64 (((BitVec.ofInt 64 a).toNat % 65536 : Nat) : Int))).awp P h Q) : (Prog.op (.bin 0 .and (.int .i64 a) (.int .i64 65535)) k).awp P h Q := by
  have e : abin .and (.int .i64 a) (.int .i64 65535) = some (.int .i64 (((BitVec.ofInt 64 a).toNat % 65536 : Nat) : Int)) := by
    have h1 : (BitVec.ofInt 64 a &&& BitVec.ofInt 64 65535).toNat = (BitVec.ofInt 64 a).toNat % 65536 := by
      rw [BitVec.toNat_and, show (BitVec.ofInt 64 65535).toNat = 2 ^ 16 - 1 by decide, Nat.and_two_pow_sub_one_eq_mod]
    show (if IntKind.i64 = IntKind.i64 then some (AV.int .i64 (IntKind.i64.wrap ((BitVec.ofInt 64 a &&& BitVec.ofInt 64 65535).toNat : Int))) else none) = _
    rw [if_pos rfl, h1, wrap_id (by omega) (by omega)]
  simp only [Prog.awp, AOp.go, binOk, e]; exact hk
theorem w_xorn {p q : Nat} (hp : p < 4294967296) (hq : q < 4294967296) (hk : (k (.int .i64 ((p ^^^ q : Nat) : Int))).awp P h Q) : (Prog.op (.bin 0 .xor (.int .i64 (p : Int)) (.int .i64 (q : Int))) k).awp P h Q := by
  have e : abin .xor (.int .i64 (p : Int)) (.int .i64 (q : Int)) = some (.int .i64 ((p ^^^ q : Nat) : Int)) := by
    have h1 : (BitVec.ofInt 64 (p : Int) ^^^ BitVec.ofInt 64 (q : Int)).toNat = p ^^^ q := by rw [BitVec.toNat_xor, bv_nat (by omega), bv_nat (by omega)]
    have h2 : p ^^^ q < 2 ^ 32 := Nat.xor_lt_two_pow hp hq
    show (if IntKind.i64 = IntKind.i64 then some (AV.int .i64 (IntKind.i64.wrap ((BitVec.ofInt 64 (p : Int) ^^^ BitVec.ofInt 64 (q : Int)).toNat : Int))) else none) = _
    rw [if_pos rfl, h1, wrap_id (by omega) (by omega)]
  simp only [Prog.awp, AOp.go, binOk, e]; exact hk
theorem w_shl7 {p : Nat} (hp : p < 65536) (hk : (k (.int .i64 ((p * 128 : Nat) : Int))).awp P h Q) : (Prog.op (.bin 0 .shl (.int .i64 (p : Int)) (.int .u64 7)) k).awp P h Q := by
  have e : abin .shl (.int .i64 (p : Int)) (.int .u64 7) = some (.int .i64 ((p * 128 : Nat) : Int)) := by
    show (if (7 : Int) < 0 then none else some (AV.int .i64 (IntKind.i64.wrap ((p : Int) * 2 ^ (min (7 : Int).toNat IntKind.i64.bits))))) = _
    rw [if_neg (by decide), show (2 : Int) ^ (min (7 : Int).toNat IntKind.i64.bits) = 128 by decide, wrap_id (by omega) (by omega)]
    simp
  simp only [Prog.awp, AOp.go, binOk, e]; exact hk
theorem w_shl8 {p : Nat} (hp : p < 65536) (hk : (k (.int .i64 ((p * 256 : Nat) : Int))).awp P h Q) : (Prog.op (.bin 0 .shl (.int .i64 (p : Int)) (.int .u64 8)) k).awp P h Q := by
  have e : abin .shl (.int .i64 (p : Int)) (.int .u64 8) = some (.int .i64 ((p * 256 : Nat) : Int)) := by
    show (if (8 : Int) < 0 then none else some (AV.int .i64 (IntKind.i64.wrap ((p : Int) * 2 ^ (min (8 : Int).toNat IntKind.i64.bits))))) = _
    rw [if_neg (by decide), show (2 : Int) ^ (min (8 : Int).toNat IntKind.i64.bits) = 256 by decide, wrap_id (by omega) (by omega)]
    simp
  simp only [Prog.awp, AOp.go, binOk, e]; exact hk
theorem w_shr9 {p : Nat} (hk : (k (.int .i64 ((p / 512 : Nat) : Int))).awp P h Q) : (Prog.op (.bin 0 .shr (.int .i64 (p : Int)) (.int .u64 9)) k).awp P h Q := by
  have e : abin .shr (.int .i64 (p : Int)) (.int .u64 9) = some (.int .i64 ((p / 512 : Nat) : Int)) := by
    show (if (9 : Int) < 0 then none else some (AV.int .i64 ((p : Int).fdiv (2 ^ (min (9 : Int).toNat IntKind.i64.bits))))) = _
    rw [if_neg (by decide), show (2 : Int) ^ (min (9 : Int).toNat IntKind.i64.bits) = 512 by decide, Int.fdiv_eq_ediv_of_nonneg _ (by decide), show (p : Int) / 512 = ((p / 512 : Nat) : Int) by omega]
  simp only [Prog.awp, AOp.go, binOk, e]; exact hk
end
def mixA (n : Int) : Nat := (BitVec.ofInt 64 n).toNat % 65536
def mixB (a : Nat) : Nat := a ^^^ (a * 128) % 65536
def mixC (a : Nat) : Nat := a ^^^ a / 512
def mixD (a : Nat) : Nat := a ^^^ (a * 256) % 65536
def mix (n : Int) : Nat := mixD (mixC (mixB (mixA n)))
theorem mixA_lt (n : Int) : mixA n < 65536 := Nat.mod_lt _ (by decide)
theorem mixB_lt {a : Nat} (h : a < 65536) : mixB a < 65536 := Nat.xor_lt_two_pow (n := 16) h (Nat.mod_lt _ (by decide))
theorem mixC_lt {a : Nat} (h : a < 65536) : mixC a < 65536 := Nat.xor_lt_two_pow (n := 16) h (by omega)
theorem s_impl_Mix {h : AH} {n : Int} : RCalls Tryz.prog n_impl_Mix [.int .i64 n] h (.int .i64 (mix n : Nat)) := by
  refine reader (c_impl_Mix _) (by simp only [old]) ?_
  unfold p_impl_Mix
  have l0 := mixA_lt n
  have l1 := mixB_lt l0
  have l2 := mixC_lt l1
  refine w_and0 ?_
  rw [show (BitVec.ofInt 64 n).toNat % 65536 = mixA n from rfl]
  refine w_shl7 l0 (w_andn (q := 65535) (by omega) (by decide) (w_xorn (by omega) ?_ ?_))
  · exact Nat.lt_of_le_of_lt Nat.and_le_right (by decide)
  rw [Nat.and_two_pow_sub_one_eq_mod (n := 16), show mixA n ^^^ mixA n * 128 % 2 ^ 16 = mixB (mixA n) from rfl]
  refine w_shr9 (w_xorn (by omega) (by omega) ?_)
  rw [show mixB (mixA n) ^^^ mixB (mixA n) / 512 = mixC (mixB (mixA n)) from rfl]
  refine w_shl8 l2 (w_andn (q := 65535) (by omega) (by decide) (w_xorn (by omega) ?_ ?_))
  · exact Nat.lt_of_le_of_lt Nat.and_le_right (by decide)
  rw [Nat.and_two_pow_sub_one_eq_mod (n := 16)]
  exact aw_fin1 (pi rfl)
theorem s_spec_Mix {h : AH} {n : Int} : RCalls Tryz.prog n_spec_Mix [.int .i64 n] h (.int .i64 (mix n : Nat)) := by
  refine reader (c_spec_Mix _) (by simp only [old]) ?_
  unfold p_spec_Mix
  have l0 := mixA_lt n
  have l1 := mixB_lt l0
  have l2 := mixC_lt l1
  have x1 : ∀ a : Nat, a < 65536 → (a ^^^ (a * 128)) < 4294967296 := fun a ha => Nat.xor_lt_two_pow (n := 32) (by omega) (by omega)
  have x2 : ∀ a : Nat, a < 65536 → (a ^^^ (a * 256)) < 4294967296 := fun a ha => Nat.xor_lt_two_pow (n := 32) (by omega) (by omega)
  have y1 := x1 _ l0
  have y2 := x2 _ l2
  refine w_and0 ?_
  rw [show (BitVec.ofInt 64 n).toNat % 65536 = mixA n from rfl]
  refine w_shl7 l0 (w_xorn (by omega) (by omega) (w_andn (q := 65535) (by omega) (by decide) ?_))
  rw [Nat.and_two_pow_sub_one_eq_mod (n := 16), Nat.xor_mod_two_pow, Nat.mod_eq_of_lt (a := mixA n) (b := 2 ^ 16) l0, show mixA n ^^^ mixA n * 128 % 2 ^ 16 = mixB (mixA n) from rfl]
  refine w_shr9 (w_xorn (by omega) (by omega) ?_)
  rw [show mixB (mixA n) ^^^ mixB (mixA n) / 512 = mixC (mixB (mixA n)) from rfl]
  refine w_shl8 l2 (w_xorn (by omega) (by omega) (w_andn (q := 65535) (by omega) (by decide) ?_))
  rw [Nat.and_two_pow_sub_one_eq_mod (n := 16), Nat.xor_mod_two_pow, Nat.mod_eq_of_lt (a := mixC (mixB (mixA n))) (b := 2 ^ 16) l2]
  exact aw_fin1 (pi rfl)

def stripe (t n : Int) : Int := if n < 1 then 0 else ((mix t : Nat) : Int).tmod n
theorem stripe_b {t n : Int} (hn : 1 ≤ n) : 0 ≤ stripe t n ∧ stripe t n < n := by
  unfold stripe
  rw [if_neg (by omega)]
  exact ⟨Int.tmod_nonneg _ (by omega), Int.tmod_lt_of_pos _ (by omega)⟩
theorem s_impl_StripeOf {h : AH} {t n : Int} : RCalls Tryz.prog n_impl_StripeOf [.int .i64 t, .int .i64 n] h (.int .i64 (stripe t n)) := by
  refine reader (c_impl_StripeOf _ _) (by simp only [old]) ?_
  unfold p_impl_StripeOf
  (repeat' first|refine vs ?_|(refine br ?_ ?_<;>intro _<;>try(exfalso;first|omega|contradiction))|((with_reducible refine g_callf n_impl_Mix ?_);refine aw_rcall s_impl_Mix ?_)|((with_reducible refine g_idx ?_);((first|refine ix ?_|refine ixi ?_|(refine ixg ?_;intro _ _)|(refine ixgi ?_;intro _ _));first|rintro _ _ _ _ _ ⟨rfl,rfl⟩ _|rintro _ _ _ _ _ ⟨_,rfl,_⟩ _|rintro _ _ _ _ _ ⟨_,_,_,_,rfl,rfl,_,_⟩ _|intro _ _ _ _ _ _ _))|(refine sx ?_;intro _ _)|((with_reducible refine g_awp ?_);simp only [g0,g1,g2]))
  · exact pi (by unfold stripe; rw [if_pos (by assumption)])
  · refine aw_rem (by omega) (aw_fin1 (pi ?_))
    unfold stripe; rw [if_neg (by assumption)]
theorem s_spec_StripeOf {h : AH} {t n : Int} : RCalls Tryz.prog n_spec_StripeOf [.int .i64 t, .int .i64 n] h (.int .i64 (stripe t n)) := by
  refine reader (c_spec_StripeOf _ _) (by simp only [old]) ?_
  unfold p_spec_StripeOf
  (repeat' first|refine vs ?_|(refine br ?_ ?_<;>intro _<;>try(exfalso;first|omega|contradiction))|((with_reducible refine g_callf n_spec_Mix ?_);refine aw_rcall s_spec_Mix ?_)|((with_reducible refine g_idx ?_);((first|refine ix ?_|refine ixi ?_|(refine ixg ?_;intro _ _)|(refine ixgi ?_;intro _ _));first|rintro _ _ _ _ _ ⟨rfl,rfl⟩ _|rintro _ _ _ _ _ ⟨_,rfl,_⟩ _|rintro _ _ _ _ _ ⟨_,_,_,_,rfl,rfl,_,_⟩ _|intro _ _ _ _ _ _ _))|(refine sx ?_;intro _ _)|((with_reducible refine g_awp ?_);simp only [g0,g1,g2]))
  · exact pi (by unfold stripe; rw [if_pos (by assumption)])
  · refine aw_rem (by omega) (aw_fin1 (pi ?_))
    unfold stripe; rw [if_neg (by assumption)]

def holdsStripe (t : Task) (n : Int) : Int := if n < 1 then -1 else if t.op = 1 ∧ t.pc = 1 then stripe t.s.trace n else if (t.op = 1 ∧ t.pc = 3) ∨ (t.op = 2 ∧ (t.pc = 1 ∨ t.pc = 2)) then stripe t.trace n else -1
theorem s_impl_HoldsStripe {h : AH} {t : Task} {n : Int} {v v' : AV} : RCalls Tryz.prog n_impl_HoldsStripe [.agg (t.cs v v'), .int .i64 n] h (.int .i64 (holdsStripe t n)) := by
  refine reader (c_impl_HoldsStripe _ _) (by simp only [old]) ?_
  unfold p_impl_HoldsStripe
  (repeat' first|refine vs ?_|(refine br ?_ ?_<;>intro _<;>try(exfalso;first|omega|contradiction))|((with_reducible refine g_callf n_impl_StripeOf ?_);refine aw_rcall s_impl_StripeOf ?_)|((with_reducible refine g_idx ?_);((first|refine ix ?_|refine ixi ?_|(refine ixg ?_;intro _ _)|(refine ixgi ?_;intro _ _));first|rintro _ _ _ _ _ ⟨rfl,rfl⟩ _|rintro _ _ _ _ _ ⟨_,rfl,_⟩ _|rintro _ _ _ _ _ ⟨_,_,_,_,rfl,rfl,_,_⟩ _|intro _ _ _ _ _ _ _))|(refine sx ?_;intro _ _)|((with_reducible refine g_awp ?_);simp only [g0,g1,g2]))
  all_goals (refine pi ?_; simp [holdsStripe, *])
theorem s_spec_HoldsStripe {h : AH} {t : Task} {n : Int} {v v' : AV} : RCalls Tryz.prog n_spec_HoldsStripe [.agg (t.cs v v'), .int .i64 n] h (.int .i64 (holdsStripe t n)) := by
  refine reader (c_spec_HoldsStripe _ _) (by simp only [old]) ?_
  unfold p_spec_HoldsStripe
  (repeat' first|refine vs ?_|(refine br ?_ ?_<;>intro _<;>try(exfalso;first|omega|contradiction))|((with_reducible refine g_callf n_spec_StripeOf ?_);refine aw_rcall s_spec_StripeOf ?_)|((with_reducible refine g_idx ?_);((first|refine ix ?_|refine ixi ?_|(refine ixg ?_;intro _ _)|(refine ixgi ?_;intro _ _));first|rintro _ _ _ _ _ ⟨rfl,rfl⟩ _|rintro _ _ _ _ _ ⟨_,rfl,_⟩ _|rintro _ _ _ _ _ ⟨_,_,_,_,rfl,rfl,_,_⟩ _|intro _ _ _ _ _ _ _))|(refine sx ?_;intro _ _)|((with_reducible refine g_awp ?_);simp only [g0,g1,g2]))
  all_goals (refine pi ?_; simp [holdsStripe, *])

def trailOk (t : Trail) : Prop := (∀ s ∈ t.spans, spanOk s ∧ s.trace = t.id) ∧ (1 ≤ t.id ∧ t.id ≤ 999) ∧ 1 ≤ t.stamp ∧ (0 ≤ t.first ∧ t.first ≤ 2147483647) ∧ 0 < (t.spans.length : Int)
theorem s_impl_TrailOk {h : AH} {t : Trail} {v : AV} {F : List Nat} (ok : ∀ x ∈ t.spans, Cel.ok x) (hs : Sz.sz t ≤ 67108864) (r : SlRep h v t.spans F) : RCalls Tryz.prog n_impl_TrailOk [.agg (t.cs v)] h (.bool (bp (trailOk t))) := by
  refine reader (c_impl_TrailOk _) (by simp only [old]) ?_
  unfold p_impl_TrailOk
  have hsz : Sz.sz t = t.spans.length + szs t.spans := rfl
  refine vs ?_
  refine aw_upto t.spans.length (fun i vs h1 => vs = [.int .i64 (i : Int)] ∧ i ≤ t.spans.length ∧ Ext (h.push ⟨t.cs v, 0, 0⟩) h1 ∧ Upto t.spans (fun _ s => spanOk s ∧ s.trace = t.id) i) ⟨rfl, Nat.zero_le _, ext_auto, up0⟩ ?_
  rintro i vs h1 _ ⟨rfl, hi, e1, hu⟩
  simp only [g0]
  refine br (fun hlt => ?_) (fun hge => ?_)
  · obtain ⟨x, hx, -, -⟩ := drop_step (show i < t.spans.length by omega)
    have hm := List.mem_of_getElem? hx
    have h5 := szs_mem hm
    (repeat' first|refine vs ?_|(refine br ?_ ?_<;>intro _<;>try(exfalso;first|omega|contradiction))|((with_reducible refine g_callf n_impl_SpanOk ?_);(refine aw_rcall_b (s_impl_SpanOk (ok x hm) (by omega) slr_auto) ?_ ?_ <;> intro hn <;> first | replace hn := bp_true hn | replace hn := bp_false hn))|((with_reducible refine g_idx ?_);((first|refine ix ?_|refine ixi ?_|(refine ixg ?_;intro _ _)|(refine ixgi ?_;intro _ _));first|rintro _ _ _ _ _ ⟨rfl,rfl⟩ _|rintro _ _ _ _ _ ⟨_,rfl,_⟩ _|rintro _ _ _ _ _ ⟨_,_,_,_,rfl,rfl,_,_⟩ _|intro _ _ _ _ _ _ _))|(refine sx ?_;intro _ _)|((with_reducible refine g_awp ?_);simp only [g0,g1,g2]))
    all_goals first
      | exact pf fun k => upNot hx (by rintro ⟨a1, a2⟩; first | contradiction | omega) k.1
      | exact ⟨by omega, rfl, by omega, ext_auto, upS hu hx ⟨hn, by omega⟩⟩
  · have e : i = t.spans.length := by omega
    rw [e] at hu
    have hu := upAll hu
    (repeat' first|refine vs ?_|(refine br ?_ ?_<;>intro _<;>try(exfalso;first|omega|contradiction))|((with_reducible refine g_callf n_impl_within ?_);(refine aw_rcall_b s_impl_within ?_ ?_ <;> intro hb <;> first | replace hb := inB_t hb | replace hb := inB_f hb))|((with_reducible refine g_idx ?_);((first|refine ix ?_|refine ixi ?_|(refine ixg ?_;intro _ _)|(refine ixgi ?_;intro _ _));first|rintro _ _ _ _ _ ⟨rfl,rfl⟩ _|rintro _ _ _ _ _ ⟨_,rfl,_⟩ _|rintro _ _ _ _ _ ⟨_,_,_,_,rfl,rfl,_,_⟩ _|intro _ _ _ _ _ _ _))|(refine sx ?_;intro _ _)|((with_reducible refine g_awp ?_);simp only [g0,g1,g2]))
    all_goals first
      | exact pt ⟨hu, by omega, by omega, by omega, by omega⟩
      | exact pf fun k => by obtain ⟨a1, a2, a3, a4, a5⟩ := k; omega
theorem s_spec_TrailOk {h : AH} {t : Trail} {v : AV} {F : List Nat} (ok : ∀ x ∈ t.spans, Cel.ok x) (hs : Sz.sz t ≤ 67108864) (r : SlRep h v t.spans F) : RCalls Tryz.prog n_spec_TrailOk [.agg (t.cs v)] h (.bool (bp (trailOk t))) := by
  refine reader (c_spec_TrailOk _) (by simp only [old]) ?_
  unfold p_spec_TrailOk
  have hsz : Sz.sz t = t.spans.length + szs t.spans := rfl
  have hsm := r.small
  refine vs ?_
  refine aw_upto t.spans.length (fun i vs h1 => vs = [.int .i64 (i : Int)] ∧ i ≤ t.spans.length ∧ Ext (h.push ⟨t.cs v, 0, 0⟩) h1 ∧ Upto t.spans (fun _ s => spanOk s ∧ s.trace = t.id) i) ⟨rfl, Nat.zero_le _, ext_auto, up0⟩ ?_
  rintro i vs h1 _ ⟨rfl, hi, e1, hu⟩
  simp only [g0]
  refine vs ?_
  refine br (fun hlt => ?_) (fun hge => ?_)
  · obtain ⟨x, hx, -, -⟩ := drop_step (show i < t.spans.length by omega)
    have hm := List.mem_of_getElem? hx
    have h5 := szs_mem hm
    (repeat' first|refine vs ?_|(refine br ?_ ?_<;>intro _<;>try(exfalso;first|omega|contradiction))|((with_reducible refine g_callf n_spec_SpanOk ?_);(refine aw_rcall_b (s_spec_SpanOk (ok x hm) (by omega) slr_auto) ?_ ?_ <;> intro hn <;> first | replace hn := bp_true hn | replace hn := bp_false hn))|((with_reducible refine g_idx ?_);((first|refine ix ?_|refine ixi ?_|(refine ixg ?_;intro _ _)|(refine ixgi ?_;intro _ _));first|rintro _ _ _ _ _ ⟨rfl,rfl⟩ _|rintro _ _ _ _ _ ⟨_,rfl,_⟩ _|rintro _ _ _ _ _ ⟨_,_,_,_,rfl,rfl,_,_⟩ _|intro _ _ _ _ _ _ _))|(refine sx ?_;intro _ _)|((with_reducible refine g_awp ?_);simp only [g0,g1,g2]))
    all_goals first
      | exact pf fun k => upNot hx (by rintro ⟨a1, a2⟩; first | contradiction | omega) k.1
      | exact ⟨by omega, rfl, by omega, ext_auto, upS hu hx ⟨hn, by omega⟩⟩
  · have e : i = t.spans.length := by omega
    rw [e] at hu
    have hu := upAll hu
    (repeat' first|refine vs ?_|(refine br ?_ ?_<;>intro _<;>try(exfalso;first|omega|contradiction))|((with_reducible refine g_callf n_spec_l1In ?_);(refine aw_rcall_b s_spec_l1In ?_ ?_ <;> intro hb <;> first | replace hb := inB_t hb | replace hb := inB_f hb))|((with_reducible refine g_idx ?_);((first|refine ix ?_|refine ixi ?_|(refine ixg ?_;intro _ _)|(refine ixgi ?_;intro _ _));first|rintro _ _ _ _ _ ⟨rfl,rfl⟩ _|rintro _ _ _ _ _ ⟨_,rfl,_⟩ _|rintro _ _ _ _ _ ⟨_,_,_,_,rfl,rfl,_,_⟩ _|intro _ _ _ _ _ _ _))|(refine sx ?_;intro _ _)|((with_reducible refine g_awp ?_);simp only [g0,g1,g2]))
    all_goals first
      | exact pt ⟨hu, by omega, by omega, by omega, by omega⟩
      | exact pf fun k => by obtain ⟨a1, a2, a3, a4, a5⟩ := k; omega

def fits (c : Conf) (s : Span) : Prop := spanOk s ∧ spanSize s ≤ c.budget
end Go.Proofs.YtjnekdbdmoibgaaGreat
end
section
/- Copies of things, trails and stripes. -/
set_option linter.unusedSimpArgs false
set_option linter.unusedVariables false
set_option maxHeartbeats 1000000
namespace Go.Proofs.YtjnekdbdmoibgaaGreat
open Go Go.Ab
section
/- impl.copySpan -/
def p_impl_copySpan (x0 : AV) : Prog := .op (.box x0) fun v1 => .op (.alloc z6_822) fun v2 => .op (.fad 5 v1) fun v3 => .op (.ld1 v3) fun v4 => .op (.app 4 48 AV.nils v4) fun v5 => .op (.fad 5 v1) fun v6 => .op (.st 1 v6 v5) fun v7 => .op (.ldn 6 v1) fun v8 => .op (.st 6 v2 v8) fun v9 => .fin [.cn 6 v2]
theorem c_impl_copySpan (x0 : AV) : CC Tryz.prog n_impl_copySpan [x0] (p_impl_copySpan x0) := cc Tryz.func97 [] (fun _ => []) (by kernel_rfl)
/- spec.l3Copy -/
def p_spec_l3Copy (x0 : AV) : Prog := .op (.box x0) fun v1 => .op (.alloc z6_822) fun v2 => .op (.bslice 4 0 [] []) fun v3 => .op (.fad 5 v1) fun v4 => .op (.ld1 v4) fun v5 => .op (.app 4 48 v3 v5) fun v6 => .op (.fad 5 v1) fun v7 => .op (.st 1 v7 v6) fun v8 => .op (.ldn 6 v1) fun v9 => .op (.st 6 v2 v9) fun v10 => .fin [.cn 6 v2]
theorem c_spec_l3Copy (x0 : AV) : CC Tryz.prog n_spec_l3Copy [x0] (p_spec_l3Copy x0) := cc Tryz.func177 [] (fun _ => []) (by kernel_rfl)
/- impl.copySpans -/
def p_impl_copySpans (x0 : AV) : Prog := .op (.len 0 x0) fun v1 => .loop [AV.nils, AV.int .i64 0] (fun vs2 => .op (.bin 0 .lss (g vs2 1) v1) fun v4 => .ite v4 (.op (.idx 6 x0 (g vs2 1)) fun v5 => .op (.ldn 6 v5) fun v6 => .op (.alloc z6_822) fun v7 => .op (.st 6 v7 v6) fun v8 => .op (.ldn 6 v7) fun v9 => .op (.call n_impl_copySpan [v9]) fun v10 => .op (.bslice 6 1 z6_822 [(0, 6, v10)]) fun v11 => .op (.app 6 64 (g vs2 0) v11) fun v12 => .op (.bin 0 .add (g vs2 1) (AV.int .i64 1)) fun v13 => .leaf 0 [v12, v13]) (.leaf 2 [g vs2 0, g vs2 1])) fun t3 vs2 => tsel t3 1 (.leaf 1 vs2) (tsel t3 2 (.fin [.val (g vs2 0)]) .bad)
theorem c_impl_copySpans (x0 : AV) : CC Tryz.prog n_impl_copySpans [x0] (p_impl_copySpans x0) := cc Tryz.func296 [3, 6, 7, 8] (fun _ => []) (by kernel_rfl)
/- spec.l3All -/
def p_spec_l3All (x0 : AV) : Prog := .op (.bslice 6 0 [] []) fun v1 => .loop [v1, AV.int .i64 0] (fun vs2 => .op (.len 0 x0) fun v4 => .op (.bin 0 .lss (g vs2 1) v4) fun v5 => .ite v5 (.op (.idx 6 x0 (g vs2 1)) fun v6 => .op (.ldn 6 v6) fun v7 => .op (.call n_spec_l3Copy [v7]) fun v8 => .op (.alloc z6_822) fun v9 => .op (.st 6 v9 v8) fun v10 => .op (.ldn 6 v9) fun v11 => .op (.bslice 6 1 z6_822 [(0, 6, v11)]) fun v12 => .op (.app 6 64 (g vs2 0) v12) fun v13 => .op (.bin 0 .add (g vs2 1) (AV.int .i64 1)) fun v14 => .leaf 0 [v13, v14]) (.leaf 2 [g vs2 0, g vs2 1])) fun t3 vs2 => tsel t3 1 (.leaf 1 vs2) (tsel t3 2 (.fin [.val (g vs2 0)]) .bad)
theorem c_spec_l3All (x0 : AV) : CC Tryz.prog n_spec_l3All [x0] (p_spec_l3All x0) := cc Tryz.func324 [0, 3, 4] (fun _ => []) (by kernel_rfl)
/- impl.copyTrail -/
def p_impl_copyTrail (x0 : AV) : Prog := .op (.box x0) fun v1 => .op (.alloc [AV.int .i64 0, AV.int .i64 0, AV.int .i64 0, AV.nils]) fun v2 => .op (.fad 3 v1) fun v3 => .op (.ld1 v3) fun v4 => .op (.call n_impl_copySpans [v4]) fun v5 => .op (.fad 3 v1) fun v6 => .op (.st 1 v6 v5) fun v7 => .op (.ldn 4 v1) fun v8 => .op (.st 4 v2 v8) fun v9 => .fin [.cn 4 v2]
theorem c_impl_copyTrail (x0 : AV) : CC Tryz.prog n_impl_copyTrail [x0] (p_impl_copyTrail x0) := cc Tryz.func230 [] (fun _ => []) (by kernel_rfl)
/- spec.l10Copy -/
def p_spec_l10Copy (x0 : AV) : Prog := .op (.box x0) fun v1 => .op (.alloc [AV.int .i64 0, AV.int .i64 0, AV.int .i64 0, AV.nils]) fun v2 => .op (.fad 3 v1) fun v3 => .op (.ld1 v3) fun v4 => .op (.call n_spec_l3All [v4]) fun v5 => .op (.fad 3 v1) fun v6 => .op (.st 1 v6 v5) fun v7 => .op (.ldn 4 v1) fun v8 => .op (.st 4 v2 v8) fun v9 => .fin [.cn 4 v2]
theorem c_spec_l10Copy (x0 : AV) : CC Tryz.prog n_spec_l10Copy [x0] (p_spec_l10Copy x0) := cc Tryz.func264 [] (fun _ => []) (by kernel_rfl)
/- impl.copyTrails -/
def p_impl_copyTrails (x0 : AV) : Prog := .op (.len 0 x0) fun v1 => .loop [AV.nils, AV.int .i64 0] (fun vs2 => .op (.bin 0 .lss (g vs2 1) v1) fun v4 => .ite v4 (.op (.idx 4 x0 (g vs2 1)) fun v5 => .op (.ldn 4 v5) fun v6 => .op (.alloc [AV.int .i64 0, AV.int .i64 0, AV.int .i64 0, AV.nils]) fun v7 => .op (.st 4 v7 v6) fun v8 => .op (.ldn 4 v7) fun v9 => .op (.call n_impl_copyTrail [v9]) fun v10 => .op (.bslice 4 1 [AV.int .i64 0, AV.int .i64 0, AV.int .i64 0, AV.nils] [(0, 4, v10)]) fun v11 => .op (.app 4 48 (g vs2 0) v11) fun v12 => .op (.bin 0 .add (g vs2 1) (AV.int .i64 1)) fun v13 => .leaf 0 [v12, v13]) (.leaf 2 [g vs2 0, g vs2 1])) fun t3 vs2 => tsel t3 1 (.leaf 1 vs2) (tsel t3 2 (.fin [.val (g vs2 0)]) .bad)
theorem c_impl_copyTrails (x0 : AV) : CC Tryz.prog n_impl_copyTrails [x0] (p_impl_copyTrails x0) := cc Tryz.func209 [3, 6, 7, 8] (fun _ => []) (by kernel_rfl)
/- spec.l10All -/
def p_spec_l10All (x0 : AV) : Prog := .op (.bslice 4 0 [] []) fun v1 => .loop [v1, AV.int .i64 0] (fun vs2 => .op (.len 0 x0) fun v4 => .op (.bin 0 .lss (g vs2 1) v4) fun v5 => .ite v5 (.op (.idx 4 x0 (g vs2 1)) fun v6 => .op (.ldn 4 v6) fun v7 => .op (.call n_spec_l10Copy [v7]) fun v8 => .op (.alloc [AV.int .i64 0, AV.int .i64 0, AV.int .i64 0, AV.nils]) fun v9 => .op (.st 4 v9 v8) fun v10 => .op (.ldn 4 v9) fun v11 => .op (.bslice 4 1 [AV.int .i64 0, AV.int .i64 0, AV.int .i64 0, AV.nils] [(0, 4, v11)]) fun v12 => .op (.app 4 48 (g vs2 0) v12) fun v13 => .op (.bin 0 .add (g vs2 1) (AV.int .i64 1)) fun v14 => .leaf 0 [v13, v14]) (.leaf 2 [g vs2 0, g vs2 1])) fun t3 vs2 => tsel t3 1 (.leaf 1 vs2) (tsel t3 2 (.fin [.val (g vs2 0)]) .bad)
theorem c_spec_l10All (x0 : AV) : CC Tryz.prog n_spec_l10All [x0] (p_spec_l10All x0) := cc Tryz.func186 [0, 3, 4] (fun _ => []) (by kernel_rfl)
/- impl.copyStripes -/
def p_impl_copyStripes (x0 : AV) : Prog := .op (.len 0 x0) fun v1 => .loop [AV.nils, AV.int .i64 0] (fun vs2 => .op (.bin 0 .lss (g vs2 1) v1) fun v4 => .ite v4 (.op (.idx 2 x0 (g vs2 1)) fun v5 => .op (.ldn 2 v5) fun v6 => .op (.alloc [AV.int .i64 0, AV.nils]) fun v7 => .op (.st 2 v7 v6) fun v8 => .op (.fad 0 v7) fun v9 => .op (.ld1 v9) fun v10 => .op (.fad 1 v7) fun v11 => .op (.ld1 v11) fun v12 => .op (.call n_impl_copyTrails [v12]) fun v13 => .chk (.ld1 v9) v10 (.op (.build [AV.int .i64 0, AV.nils] [(0, 1, v10), (1, 1, v13)]) fun v14 => .op (.bslice 2 1 [AV.int .i64 0, AV.nils] [(0, 2, v14)]) fun v15 => .op (.app 2 32 (g vs2 0) v15) fun v16 => .op (.bin 0 .add (g vs2 1) (AV.int .i64 1)) fun v17 => .leaf 0 [v16, v17])) (.leaf 2 [g vs2 0, g vs2 1])) fun t3 vs2 => tsel t3 1 (.leaf 1 vs2) (tsel t3 2 (.fin [.val (g vs2 0)]) .bad)
theorem c_impl_copyStripes (x0 : AV) : CC Tryz.prog n_impl_copyStripes [x0] (p_impl_copyStripes x0) := cc Tryz.func136 [3, 6, 7, 8] (fun r => if r = 5 then [(0, []), (1, []), (2, []), (3, []), (4, []), (5, [2]), (6, []), (7, []), (8, []), (9, [])] else []) (by kernel_rfl)
/- spec.l11Copy -/
def p_spec_l11Copy (x0 : AV) : Prog := .op (.bslice 2 0 [] []) fun v1 => .loop [v1, AV.int .i64 0] (fun vs2 => .op (.len 0 x0) fun v4 => .op (.bin 0 .lss (g vs2 1) v4) fun v5 => .ite v5 (.op (.idx 2 x0 (g vs2 1)) fun v6 => .op (.fad 0 v6) fun v7 => .op (.ld1 v7) fun v8 => .op (.idx 2 x0 (g vs2 1)) fun v9 => .op (.fad 1 v9) fun v10 => .op (.ld1 v10) fun v11 => .op (.call n_spec_l10All [v11]) fun v12 => .chk (.ld1 v7) v8 (.op (.build [AV.int .i64 0, AV.nils] [(0, 1, v8), (1, 1, v12)]) fun v13 => .op (.bslice 2 1 [AV.int .i64 0, AV.nils] [(0, 2, v13)]) fun v14 => .op (.app 2 32 (g vs2 0) v14) fun v15 => .op (.bin 0 .add (g vs2 1) (AV.int .i64 1)) fun v16 => .leaf 0 [v15, v16])) (.leaf 2 [g vs2 0, g vs2 1])) fun t3 vs2 => tsel t3 1 (.leaf 1 vs2) (tsel t3 2 (.fin [.val (g vs2 0)]) .bad)
theorem c_spec_l11Copy (x0 : AV) : CC Tryz.prog n_spec_l11Copy [x0] (p_spec_l11Copy x0) := cc Tryz.func108 [0, 3, 4] (fun r => if r = 5 then [(0, []), (1, []), (2, []), (3, []), (4, []), (5, []), (6, []), (7, []), (8, []), (9, []), (10, []), (11, [5]), (12, []), (13, []), (14, []), (15, [])] else []) (by kernel_rfl)
end
theorem s_impl_copySpan (x : Span) (hs : Sz.sz x ≤ 67108864) : CopyX Span Tryz.prog n_impl_copySpan x := by
  rintro cs F h ⟨v0, rfl, r0⟩
  have hs : (x.attrs.length + szs x.attrs) ≤ 67108864 := hs
  refine c_impl_copySpan _ ?_
  unfold p_impl_copySpan
  (repeat' first|refine vs ?_|(refine br ?_ ?_<;>intro _<;>try(exfalso;first|omega|contradiction))|((with_reducible refine g_idx ?_);((first|refine ix ?_|refine ixi ?_|(refine ixg ?_;intro _ _)|(refine ixgi ?_;intro _ _));first|rintro _ _ _ _ _ ⟨rfl,rfl⟩ _|rintro _ _ _ _ _ ⟨_,rfl,_⟩ _|rintro _ _ _ _ _ ⟨_,_,_,_,rfl,rfl,_,_⟩ _|intro _ _ _ _ _ _ _))|(refine sx ?_;intro _ _)|((with_reducible refine g_awp ?_);simp only [g0,g1,g2]))
  refine app0 (n := h.n + 2) (ys := x.attrs) (Fy := F) slr_auto (tail_own (α := Attr) r0 _) om_auto rfl (by omega) ?_
  intro u h' F' e r' o'
  have n1 := e.1
  simp only [push_n] at n1
  (repeat' first|refine vs ?_|(refine br ?_ ?_<;>intro _<;>try(exfalso;first|omega|contradiction))|((with_reducible refine g_idx ?_);((first|refine ix ?_|refine ixi ?_|(refine ixg ?_;intro _ _)|(refine ixgi ?_;intro _ _));first|rintro _ _ _ _ _ ⟨rfl,rfl⟩ _|rintro _ _ _ _ _ ⟨_,rfl,_⟩ _|rintro _ _ _ _ _ ⟨_,_,_,_,rfl,rfl,_,_⟩ _|intro _ _ _ _ _ _ _))|(refine sx ?_;intro _ _)|((with_reducible refine g_awp ?_);simp only [g0,g1,g2]))
  exact ⟨rfl, _, rfl, ext_auto, _, _, rfl, ⟨_, rfl, slr_auto⟩, ol_auto⟩
theorem s_spec_l3Copy (x : Span) (hs : Sz.sz x ≤ 67108864) : CopyX Span Tryz.prog n_spec_l3Copy x := by
  rintro cs F h ⟨v0, rfl, r0⟩
  have hs : (x.attrs.length + szs x.attrs) ≤ 67108864 := hs
  refine c_spec_l3Copy _ ?_
  unfold p_spec_l3Copy
  (repeat' first|refine vs ?_|(refine br ?_ ?_<;>intro _<;>try(exfalso;first|omega|contradiction))|((with_reducible refine g_idx ?_);((first|refine ix ?_|refine ixi ?_|(refine ixg ?_;intro _ _)|(refine ixgi ?_;intro _ _));first|rintro _ _ _ _ _ ⟨rfl,rfl⟩ _|rintro _ _ _ _ _ ⟨_,rfl,_⟩ _|rintro _ _ _ _ _ ⟨_,_,_,_,rfl,rfl,_,_⟩ _|intro _ _ _ _ _ _ _))|(refine sx ?_;intro _ _)|((with_reducible refine g_awp ?_);simp only [g0,g1,g2]))
  refine appE (n := h.n + 2) (ys := x.attrs) (Fy := F) slr_auto (tail_own (α := Attr) r0 _) om_auto rfl (by omega) ?_
  intro u h' F' e r' o'
  have n1 := e.1
  simp only [push_n] at n1
  (repeat' first|refine vs ?_|(refine br ?_ ?_<;>intro _<;>try(exfalso;first|omega|contradiction))|((with_reducible refine g_idx ?_);((first|refine ix ?_|refine ixi ?_|(refine ixg ?_;intro _ _)|(refine ixgi ?_;intro _ _));first|rintro _ _ _ _ _ ⟨rfl,rfl⟩ _|rintro _ _ _ _ _ ⟨_,rfl,_⟩ _|rintro _ _ _ _ _ ⟨_,_,_,_,rfl,rfl,_,_⟩ _|intro _ _ _ _ _ _ _))|(refine sx ?_;intro _ _)|((with_reducible refine g_awp ?_);simp only [g0,g1,g2]))
  exact ⟨rfl, _, rfl, ext_auto, _, _, rfl, ⟨_, rfl, slr_auto⟩, ol_auto⟩
theorem s_impl_copySpans (xs : List Span) (hs : xs.length + szs xs ≤ 67108864) : CopyL Tryz.prog n_impl_copySpans xs := fun v F h r =>
  c_impl_copySpans _ (mapI_spec rfl rfl (by decide) (fun x hx => s_impl_copySpan x (by have := szs_mem hx; omega)) r (by omega))
theorem s_spec_l3All (xs : List Span) (hs : xs.length + szs xs ≤ 67108864) : CopyL Tryz.prog n_spec_l3All xs := fun v F h r =>
  c_spec_l3All _ (mapS_spec rfl rfl (by decide) (fun x hx => s_spec_l3Copy x (by have := szs_mem hx; omega)) r (by omega))
theorem s_impl_copyTrail (x : Trail) (hs : Sz.sz x ≤ 67108864) : CopyX Trail Tryz.prog n_impl_copyTrail x := by
  rintro cs F h ⟨v0, rfl, r0⟩
  have hs : (x.spans.length + szs x.spans) ≤ 67108864 := hs
  refine c_impl_copyTrail _ ?_
  unfold p_impl_copyTrail
  (repeat' first|refine vs ?_|(refine br ?_ ?_<;>intro _<;>try(exfalso;first|omega|contradiction))|((with_reducible refine g_callf n_impl_copySpans ?_);(refine aw_call (s_impl_copySpans _ hs _ _ _ slr_auto) ?_; rintro _ _ ⟨e_, _, _, _⟩; have n_ := e_.1; (try simp only [push_n, upd_n] at n_)))|((with_reducible refine g_idx ?_);((first|refine ix ?_|refine ixi ?_|(refine ixg ?_;intro _ _)|(refine ixgi ?_;intro _ _));first|rintro _ _ _ _ _ ⟨rfl,rfl⟩ _|rintro _ _ _ _ _ ⟨_,rfl,_⟩ _|rintro _ _ _ _ _ ⟨_,_,_,_,rfl,rfl,_,_⟩ _|intro _ _ _ _ _ _ _))|(refine sx ?_;intro _ _)|((with_reducible refine g_awp ?_);simp only [g0,g1,g2]))
  exact ⟨rfl, _, rfl, ext_auto, _, _, rfl, ⟨_, rfl, slr_auto⟩, ol_auto⟩
theorem s_spec_l10Copy (x : Trail) (hs : Sz.sz x ≤ 67108864) : CopyX Trail Tryz.prog n_spec_l10Copy x := by
  rintro cs F h ⟨v0, rfl, r0⟩
  have hs : (x.spans.length + szs x.spans) ≤ 67108864 := hs
  refine c_spec_l10Copy _ ?_
  unfold p_spec_l10Copy
  (repeat' first|refine vs ?_|(refine br ?_ ?_<;>intro _<;>try(exfalso;first|omega|contradiction))|((with_reducible refine g_callf n_spec_l3All ?_);(refine aw_call (s_spec_l3All _ hs _ _ _ slr_auto) ?_; rintro _ _ ⟨e_, _, _, _⟩; have n_ := e_.1; (try simp only [push_n, upd_n] at n_)))|((with_reducible refine g_idx ?_);((first|refine ix ?_|refine ixi ?_|(refine ixg ?_;intro _ _)|(refine ixgi ?_;intro _ _));first|rintro _ _ _ _ _ ⟨rfl,rfl⟩ _|rintro _ _ _ _ _ ⟨_,rfl,_⟩ _|rintro _ _ _ _ _ ⟨_,_,_,_,rfl,rfl,_,_⟩ _|intro _ _ _ _ _ _ _))|(refine sx ?_;intro _ _)|((with_reducible refine g_awp ?_);simp only [g0,g1,g2]))
  exact ⟨rfl, _, rfl, ext_auto, _, _, rfl, ⟨_, rfl, slr_auto⟩, ol_auto⟩
theorem s_impl_copyTrails (xs : List Trail) (hs : xs.length + szs xs ≤ 67108864) : CopyL Tryz.prog n_impl_copyTrails xs := fun v F h r =>
  c_impl_copyTrails _ (mapI_spec rfl rfl (by decide) (fun x hx => s_impl_copyTrail x (by have := szs_mem hx; omega)) r (by omega))
theorem s_spec_l10All (xs : List Trail) (hs : xs.length + szs xs ≤ 67108864) : CopyL Tryz.prog n_spec_l10All xs := fun v F h r =>
  c_spec_l10All _ (mapS_spec rfl rfl (by decide) (fun x hx => s_spec_l10Copy x (by have := szs_mem hx; omega)) r (by omega))

theorem s_impl_copyStripes (xs : List Stripe) (hs : xs.length + szs xs ≤ 67108864) : CopyL Tryz.prog n_impl_copyStripes xs := by
  intro v F h r
  refine c_impl_copyStripes _ ?_
  unfold p_impl_copyStripes
  have hsm := r.small
  refine aw_len r ?_
  refine aw_upto xs.length (fun i vs h1 => ∃ u G, vs = [u, .int .i64 (i : Int)] ∧ i ≤ xs.length ∧ Ext h h1 ∧ SlRep h1 u (xs.take i) G ∧ Own h.n h1 G) ⟨.nils, [], rfl, Nat.zero_le _, Ext.refl _, SlRep.nils, Own.nil⟩ ?_
  rintro i vs h1 _ ⟨u, G, rfl, hi, e1, ru, ou⟩
  have n1 := e1.1
  simp only [g0, g1]
  refine br (fun hlt => ?_) (fun hge => ?_)
  · obtain ⟨x, hx, -, htk⟩ := drop_step (show i < xs.length by omega)
    have hm := szs_mem (List.mem_of_getElem? hx)
    have hx2 : Sz.sz x = x.l.length + szs x.l := rfl
    refine vs ?_
    refine aw_idx r hx rfl ?_
    rintro b o _ Fi a ⟨v0, rfl, r0⟩ _
    (repeat' first|refine vs ?_|(refine br ?_ ?_<;>intro _<;>try(exfalso;first|omega|contradiction))|((with_reducible refine g_callf n_impl_copyTrails ?_);(refine aw_call (s_impl_copyTrails x.l (by omega) _ _ _ slr_auto) ?_; rintro w2 h2 ⟨e2, G2, q2, o2⟩; have n2 := e2.1; (try simp only [push_n, upd_n] at n2)))|((with_reducible refine g_idx ?_);((first|refine ix ?_|refine ixi ?_|(refine ixg ?_;intro _ _)|(refine ixgi ?_;intro _ _));first|rintro _ _ _ _ _ ⟨rfl,rfl⟩ _|rintro _ _ _ _ _ ⟨_,rfl,_⟩ _|rintro _ _ _ _ _ ⟨_,_,_,_,rfl,rfl,_,_⟩ _|intro _ _ _ _ _ _ _))|(refine sx ?_;intro _ _)|((with_reducible refine g_awp ?_);simp only [g0,g1,g2]))
    have hlen : (xs.take i).length = i := by rw [List.length_take]; omega
    refine app1 (n := h.n) (xs := xs.take i) (Fx := G) (a := x) slr_auto ⟨_, rfl, q2⟩ (own_app (ol_auto) o2 (by simp only [push_n]; omega) dis_auto) om_auto rfl ?_ ?_ ?_
    · rw [hlen]; omega
    · rw [hlen]; omega
    intro u' h' F' ek kp r' o'
    (repeat' first|refine vs ?_|(refine br ?_ ?_<;>intro _<;>try(exfalso;first|omega|contradiction))|((with_reducible refine g_idx ?_);((first|refine ix ?_|refine ixi ?_|(refine ixg ?_;intro _ _)|(refine ixgi ?_;intro _ _));first|rintro _ _ _ _ _ ⟨rfl,rfl⟩ _|rintro _ _ _ _ _ ⟨_,rfl,_⟩ _|rintro _ _ _ _ _ ⟨_,_,_,_,rfl,rfl,_,_⟩ _|intro _ _ _ _ _ _ _))|(refine sx ?_;intro _ _)|((with_reducible refine g_awp ?_);simp only [g0,g1,g2]))
    exact ⟨by omega, u', F', rfl, by omega, ek h ext_auto (Nat.le_refl _), by rw [htk]; exact r', o'⟩
  · (repeat' first|refine vs ?_|(refine br ?_ ?_<;>intro _<;>try(exfalso;first|omega|contradiction))|((with_reducible refine g_idx ?_);((first|refine ix ?_|refine ixi ?_|(refine ixg ?_;intro _ _)|(refine ixgi ?_;intro _ _));first|rintro _ _ _ _ _ ⟨rfl,rfl⟩ _|rintro _ _ _ _ _ ⟨_,rfl,_⟩ _|rintro _ _ _ _ _ ⟨_,_,_,_,rfl,rfl,_,_⟩ _|intro _ _ _ _ _ _ _))|(refine sx ?_;intro _ _)|((with_reducible refine g_awp ?_);simp only [g0,g1,g2]))
    exact ⟨rfl, u, rfl, e1, G, by rw [show i = xs.length by omega, List.take_length] at ru; exact ru, ou⟩
theorem s_spec_l11Copy (xs : List Stripe) (hs : xs.length + szs xs ≤ 67108864) : CopyL Tryz.prog n_spec_l11Copy xs := by
  intro v F h r
  refine c_spec_l11Copy _ ?_
  unfold p_spec_l11Copy
  have hsm := r.small
  obtain ⟨re, oe⟩ := empty_own (h := h) (α := Stripe) (w := 2) rfl
  refine vs ?_
  refine aw_upto xs.length (fun i vs h1 => ∃ u G, vs = [u, .int .i64 (i : Int)] ∧ i ≤ xs.length ∧ Ext h h1 ∧ SlRep h1 u (xs.take i) G ∧ Own h.n h1 G) ⟨_, _, rfl, Nat.zero_le _, (Ext.refl _).push _, by rw [List.take_zero]; exact re, oe _ (Nat.le_refl _)⟩ ?_
  rintro i vs h1 _ ⟨u, G, rfl, hi, e1, ru, ou⟩
  have n1 := e1.1
  simp only [g0, g1]
  refine aw_len r ?_
  refine br (fun hlt => ?_) (fun hge => ?_)
  · obtain ⟨x, hx, -, htk⟩ := drop_step (show i < xs.length by omega)
    have hm := szs_mem (List.mem_of_getElem? hx)
    have hx2 : Sz.sz x = x.l.length + szs x.l := rfl
    (repeat' first|refine vs ?_|(refine br ?_ ?_<;>intro _<;>try(exfalso;first|omega|contradiction))|((with_reducible refine g_callf n_spec_l10All ?_);(refine aw_call (s_spec_l10All x.l (by omega) _ _ _ slr_auto) ?_; rintro w2 h2 ⟨e2, G2, q2, o2⟩; have n2 := e2.1; (try simp only [push_n, upd_n] at n2)))|((with_reducible refine g_idx ?_);((first|refine ix ?_|refine ixi ?_|(refine ixg ?_;intro _ _)|(refine ixgi ?_;intro _ _));first|rintro _ _ _ _ _ ⟨rfl,rfl⟩ _|rintro _ _ _ _ _ ⟨_,rfl,_⟩ _|rintro _ _ _ _ _ ⟨_,_,_,_,rfl,rfl,_,_⟩ _|intro _ _ _ _ _ _ _))|(refine sx ?_;intro _ _)|((with_reducible refine g_awp ?_);simp only [g0,g1,g2]))
    have hlen : (xs.take i).length = i := by rw [List.length_take]; omega
    refine app1 (n := h.n) (xs := xs.take i) (Fx := G) (a := x) slr_auto ⟨_, rfl, q2⟩ (own_app (ol_auto) o2 (by omega) dis_auto) om_auto rfl ?_ ?_ ?_
    · rw [hlen]; omega
    · rw [hlen]; omega
    intro u' h' F' ek kp r' o'
    (repeat' first|refine vs ?_|(refine br ?_ ?_<;>intro _<;>try(exfalso;first|omega|contradiction))|((with_reducible refine g_idx ?_);((first|refine ix ?_|refine ixi ?_|(refine ixg ?_;intro _ _)|(refine ixgi ?_;intro _ _));first|rintro _ _ _ _ _ ⟨rfl,rfl⟩ _|rintro _ _ _ _ _ ⟨_,rfl,_⟩ _|rintro _ _ _ _ _ ⟨_,_,_,_,rfl,rfl,_,_⟩ _|intro _ _ _ _ _ _ _))|(refine sx ?_;intro _ _)|((with_reducible refine g_awp ?_);simp only [g0,g1,g2]))
    exact ⟨by omega, u', F', rfl, by omega, ek h ext_auto (Nat.le_refl _), by rw [htk]; exact r', o'⟩
  · (repeat' first|refine vs ?_|(refine br ?_ ?_<;>intro _<;>try(exfalso;first|omega|contradiction))|((with_reducible refine g_idx ?_);((first|refine ix ?_|refine ixi ?_|(refine ixg ?_;intro _ _)|(refine ixgi ?_;intro _ _));first|rintro _ _ _ _ _ ⟨rfl,rfl⟩ _|rintro _ _ _ _ _ ⟨_,rfl,_⟩ _|rintro _ _ _ _ _ ⟨_,_,_,_,rfl,rfl,_,_⟩ _|intro _ _ _ _ _ _ _))|(refine sx ?_;intro _ _)|((with_reducible refine g_awp ?_);simp only [g0,g1,g2]))
    exact ⟨rfl, u, rfl, e1, G, by rw [show i = xs.length by omega, List.take_length] at ru; exact ru, ou⟩
end Go.Proofs.YtjnekdbdmoibgaaGreat
end
section
/- What is held: things of a stamp, all trails, bytes, a trail, the oldest one. -/
set_option linter.unusedSimpArgs false
set_option linter.unusedVariables false
set_option maxHeartbeats 1000000
namespace Go.Proofs.YtjnekdbdmoibgaaGreat
open Go Go.Ab
section
/- impl.allTrails -/
def p_impl_allTrails (x0 : AV) : Prog := .op (.len 0 x0) fun v1 => .loop [AV.nils, AV.int .i64 0] (fun vs2 => .op (.bin 0 .lss (g vs2 1) v1) fun v4 => .ite v4 (.op (.idx 2 x0 (g vs2 1)) fun v5 => .op (.ldn 2 v5) fun v6 => .op (.alloc [AV.int .i64 0, AV.nils]) fun v7 => .op (.st 2 v7 v6) fun v8 => .op (.fad 1 v7) fun v9 => .op (.ld1 v9) fun v10 => .op (.call n_impl_copyTrails [v10]) fun v11 => .op (.app 4 48 (g vs2 0) v11) fun v12 => .op (.bin 0 .add (g vs2 1) (AV.int .i64 1)) fun v13 => .leaf 0 [v12, v13]) (.leaf 2 [g vs2 0, g vs2 1])) fun t3 vs2 => tsel t3 1 (.leaf 1 vs2) (tsel t3 2 (.fin [.val (g vs2 0)]) .bad)
theorem c_impl_allTrails (x0 : AV) : CC Tryz.prog n_impl_allTrails [x0] (p_impl_allTrails x0) := cc Tryz.func173 [3, 6, 7, 8] (fun _ => []) (by kernel_rfl)
/- impl.HeldBytes -/
def p_impl_HeldBytes (x0 : AV) : Prog := .op (.call n_impl_allTrails [x0]) fun v1 => .op (.len 0 v1) fun v2 => .loop [AV.int .i64 0, AV.int .i64 0] (fun vs3 => .op (.bin 0 .lss (g vs3 1) v2) fun v5 => .ite v5 (.op (.idx 4 v1 (g vs3 1)) fun v6 => .op (.ldn 4 v6) fun v7 => .op (.alloc [AV.int .i64 0, AV.int .i64 0, AV.int .i64 0, AV.nils]) fun v8 => .op (.st 4 v8 v7) fun v9 => .op (.ldn 4 v8) fun v10 => .op (.call n_impl_BytesOf [v10]) fun v11 => .op (.bin 0 .add (g vs3 0) v11) fun v12 => .op (.bin 0 .add (g vs3 1) (AV.int .i64 1)) fun v13 => .leaf 0 [v12, v13]) (.leaf 2 [g vs3 0, g vs3 1])) fun t4 vs3 => tsel t4 1 (.leaf 1 vs3) (tsel t4 2 (.fin [.val (g vs3 0)]) .bad)
theorem c_impl_HeldBytes (x0 : AV) : CC Tryz.prog n_impl_HeldBytes [x0] (p_impl_HeldBytes x0) := cc Tryz.func217 [3, 7, 8, 9] (fun _ => []) (by kernel_rfl)
/- spec.HeldBytes -/
def p_spec_HeldBytes (x0 : AV) : Prog := .loop [AV.int .i64 0, AV.int .i64 0, .tup []] (fun vs1 => .op (.len 0 x0) fun v3 => .op (.bin 0 .lss (g vs1 1) v3) fun v4 => .ite v4 (.loop [g vs1 0, AV.int .i64 0] (fun vs5 => .op (.idx 2 x0 (g vs1 1)) fun v7 => .op (.fad 1 v7) fun v8 => .op (.ld1 v8) fun v9 => .op (.len 0 v9) fun v10 => .op (.bin 0 .lss (g vs5 1) v10) fun v11 => .ite v11 (.op (.idx 2 x0 (g vs1 1)) fun v12 => .op (.fad 1 v12) fun v13 => .op (.ld1 v13) fun v14 => .op (.idx 4 v14 (g vs5 1)) fun v15 => .op (.ldn 4 v15) fun v16 => .op (.call n_spec_BytesOf [v16]) fun v17 => .op (.bin 0 .add (g vs5 0) v17) fun v18 => .op (.bin 0 .add (g vs5 1) (AV.int .i64 1)) fun v19 => .leaf 0 [v18, v19]) (.leaf 4 [g vs5 0, g vs5 1])) fun t6 vs5 => tsel t6 1 (.leaf 1 vs5) (tsel t6 4 (.op (.bin 0 .add (g vs1 1) (AV.int .i64 1)) fun v20 => .leaf 0 [g vs5 0, v20, g vs5 1]) .bad)) (.leaf 2 [g vs1 0, g vs1 1, g vs1 2])) fun t2 vs1 => tsel t2 1 (.leaf 1 vs1) (tsel t2 2 (.fin [.val (g vs1 0)]) .bad)
theorem c_spec_HeldBytes (x0 : AV) : CC Tryz.prog n_spec_HeldBytes [x0] (p_spec_HeldBytes x0) := cc Tryz.func117 [0, 3, 4, 5] (fun _ => []) (by kernel_rfl)
end
/-! ### All trails -/
def allT (l : List Stripe) : List Trail := l.flatMap (·.l)
theorem allT_s {l : List Stripe} {i : Nat} {x : Stripe} (ht : l.take (i + 1) = l.take i ++ [x]) : allT (l.take (i + 1)) = allT (l.take i) ++ x.l := by rw [ht]; simp [allT]
theorem szs_app {α : Type} [Sz α] : ∀ l r : List α, szs (l ++ r) = szs l + szs r
  | [], r => by simp [szs]
  | x :: l, r => by simp only [List.cons_append, szs, szs_app l]; omega
theorem allT_b : ∀ l : List Stripe, (allT l).length + szs (allT l) ≤ szs l
  | [] => by simp [allT, szs]
  | x :: l => by
    have := allT_b l
    have e : allT (x :: l) = x.l ++ allT l := by simp [allT]
    have h2 : Sz.sz x = x.l.length + szs x.l := rfl
    rw [e, List.length_append, szs_app]; simp only [szs]; omega
theorem s_impl_allTrails {h : AH} {l : List Stripe} {v : AV} {F : List Nat} (hs : l.length + szs l ≤ 67108864) (r : SlRep h v l F) : ACalls Tryz.prog n_impl_allTrails [v] h (NewS Trail h (allT l)) := by
  refine c_impl_allTrails _ ?_
  unfold p_impl_allTrails
  have hsm := r.small
  refine aw_len r ?_
  refine aw_upto l.length (fun i vs h1 => ∃ u G, vs = [u, .int .i64 (i : Int)] ∧ i ≤ l.length ∧ Ext h h1 ∧ SlRep h1 u (allT (l.take i)) G ∧ Own h.n h1 G) ⟨.nils, [], rfl, Nat.zero_le _, Ext.refl _, SlRep.nils, Own.nil⟩ ?_
  rintro i vs h1 _ ⟨u, G, rfl, hi, e1, ru, ou⟩
  have n1 := e1.1
  simp only [g0, g1]
  have hlen := allT_b (l.take i)
  have hle := szs_take_le l i
  refine br (fun hlt => ?_) (fun hge => ?_)
  · obtain ⟨x, hx, -, htk⟩ := drop_step (show i < l.length by omega)
    have hm := szs_mem (List.mem_of_getElem? hx)
    have hx2 : Sz.sz x = x.l.length + szs x.l := rfl
    refine vs ?_
    refine aw_idx r hx rfl ?_
    rintro b o _ Fi a ⟨v0, rfl, r0⟩ _
    (repeat' first|refine vs ?_|(refine br ?_ ?_<;>intro _<;>try(exfalso;first|omega|contradiction))|((with_reducible refine g_callf n_impl_copyTrails ?_);(refine aw_call (s_impl_copyTrails x.l (by omega) _ _ _ slr_auto) ?_; rintro w2 h2 ⟨e2, G2, q2, o2⟩; have n2 := e2.1; (try simp only [push_n, upd_n] at n2)))|((with_reducible refine g_idx ?_);((first|refine ix ?_|refine ixi ?_|(refine ixg ?_;intro _ _)|(refine ixgi ?_;intro _ _));first|rintro _ _ _ _ _ ⟨rfl,rfl⟩ _|rintro _ _ _ _ _ ⟨_,rfl,_⟩ _|rintro _ _ _ _ _ ⟨_,_,_,_,rfl,rfl,_,_⟩ _|intro _ _ _ _ _ _ _))|(refine sx ?_;intro _ _)|((with_reducible refine g_awp ?_);simp only [g0,g1,g2]))
    refine app2' (n := h.n) (xs := allT (l.take i)) (ys := x.l) (Fx := G) (Fy := G2) slr_auto q2 (own_app (ol_auto) o2 om_auto dis_auto) om_auto rfl ?_ ?_ ?_
    · omega
    · omega
    intro u' h' F' ek kp r' o'
    (repeat' first|refine vs ?_|(refine br ?_ ?_<;>intro _<;>try(exfalso;first|omega|contradiction))|((with_reducible refine g_idx ?_);((first|refine ix ?_|refine ixi ?_|(refine ixg ?_;intro _ _)|(refine ixgi ?_;intro _ _));first|rintro _ _ _ _ _ ⟨rfl,rfl⟩ _|rintro _ _ _ _ _ ⟨_,rfl,_⟩ _|rintro _ _ _ _ _ ⟨_,_,_,_,rfl,rfl,_,_⟩ _|intro _ _ _ _ _ _ _))|(refine sx ?_;intro _ _)|((with_reducible refine g_awp ?_);simp only [g0,g1,g2]))
    exact ⟨by omega, u', F', rfl, by omega, ek h ext_auto (Nat.le_refl _), by rw [allT_s htk]; exact r', o'⟩
  · (repeat' first|refine vs ?_|(refine br ?_ ?_<;>intro _<;>try(exfalso;first|omega|contradiction))|((with_reducible refine g_idx ?_);((first|refine ix ?_|refine ixi ?_|(refine ixg ?_;intro _ _)|(refine ixgi ?_;intro _ _));first|rintro _ _ _ _ _ ⟨rfl,rfl⟩ _|rintro _ _ _ _ _ ⟨_,rfl,_⟩ _|rintro _ _ _ _ _ ⟨_,_,_,_,rfl,rfl,_,_⟩ _|intro _ _ _ _ _ _ _))|(refine sx ?_;intro _ _)|((with_reducible refine g_awp ?_);simp only [g0,g1,g2]))
    exact ⟨rfl, u, rfl, e1, G, by rw [show i = l.length by omega, List.take_length] at ru; exact ru, ou⟩

/-! ### Bytes -/
def trailBytes (t : Trail) : Int := sumI spanSize t.spans
theorem trailBytes_b (t : Trail) : 0 ≤ trailBytes t ∧ trailBytes t ≤ 0 + 12 * (Sz.sz t : Nat) := by
  have h := sumI_b spanSize_b t.spans
  have h2 : Sz.sz t = t.spans.length + szs t.spans := rfl
  unfold trailBytes; omega
def held (l : List Stripe) : Int := sumI trailBytes (allT l)
theorem held_b (l : List Stripe) : 0 ≤ held l ∧ held l ≤ 12 * (szs l : Nat) := by
  have h := sumI_b trailBytes_b (allT l)
  have := allT_b l
  unfold held; omega
theorem sumI_tb (l : List Trail) : 0 ≤ sumI trailBytes l ∧ sumI trailBytes l ≤ 12 * (szs l : Nat) := by
  have h := sumI_b trailBytes_b l; omega
theorem s_impl_HeldBytes {h : AH} {l : List Stripe} {v : AV} {F : List Nat} (hs : l.length + szs l ≤ 67108864) (r : SlRep h v l F) : RCalls Tryz.prog n_impl_HeldBytes [v] h (.int .i64 (held l)) := by
  refine reader (c_impl_HeldBytes _) (by simp only [old]) ?_
  unfold p_impl_HeldBytes
  refine aw_call (s_impl_allTrails hs r) ?_
  rintro w1 h1 ⟨e1, G1, q1, o1⟩
  have hall := allT_b l
  refine aw_len q1 ?_
  refine aw_upto (allT l).length (fun i vs h2 => vs = [.int .i64 (sumI trailBytes ((allT l).take i)), .int .i64 (i : Int)] ∧ i ≤ (allT l).length ∧ Ext h1 h2) ⟨by simp [sumI], Nat.zero_le _, Ext.refl _⟩ ?_
  rintro i vs h2 _ ⟨rfl, hi, e2⟩
  simp only [g0, g1]
  have hb := sumI_tb ((allT l).take i)
  have hle := szs_take_le (allT l) i
  refine br (fun hlt => ?_) (fun hge => ?_)
  · obtain ⟨x, hx, -, htk⟩ := drop_step (show i < (allT l).length by omega)
    have hm := szs_mem (List.mem_of_getElem? hx)
    have hxb := trailBytes_b x
    refine vs ?_
    refine aw_idx q1 hx rfl ?_
    rintro b o _ Fi a ⟨v0, rfl, r0⟩ _
    (repeat' first|refine vs ?_|(refine br ?_ ?_<;>intro _<;>try(exfalso;first|omega|contradiction))|((with_reducible refine g_callf n_impl_BytesOf ?_);refine aw_rcall (s_impl_BytesOf (by omega) slr_auto) ?_)|((with_reducible refine g_idx ?_);((first|refine ix ?_|refine ixi ?_|(refine ixg ?_;intro _ _)|(refine ixgi ?_;intro _ _));first|rintro _ _ _ _ _ ⟨rfl,rfl⟩ _|rintro _ _ _ _ _ ⟨_,rfl,_⟩ _|rintro _ _ _ _ _ ⟨_,_,_,_,rfl,rfl,_,_⟩ _|intro _ _ _ _ _ _ _))|(refine sx ?_;intro _ _)|((with_reducible refine g_awp ?_);simp only [g0,g1,g2]))
    refine aw_addn (by unfold trailBytes at *; omega) (by unfold trailBytes at *; omega) ?_
    (repeat' first|refine vs ?_|(refine br ?_ ?_<;>intro _<;>try(exfalso;first|omega|contradiction))|((with_reducible refine g_idx ?_);((first|refine ix ?_|refine ixi ?_|(refine ixg ?_;intro _ _)|(refine ixgi ?_;intro _ _));first|rintro _ _ _ _ _ ⟨rfl,rfl⟩ _|rintro _ _ _ _ _ ⟨_,rfl,_⟩ _|rintro _ _ _ _ _ ⟨_,_,_,_,rfl,rfl,_,_⟩ _|intro _ _ _ _ _ _ _))|(refine sx ?_;intro _ _)|((with_reducible refine g_awp ?_);simp only [g0,g1,g2]))
    exact ⟨by omega, by rw [sumI_take _ htk]; rfl, by omega, ext_auto⟩
  · (repeat' first|refine vs ?_|(refine br ?_ ?_<;>intro _<;>try(exfalso;first|omega|contradiction))|((with_reducible refine g_idx ?_);((first|refine ix ?_|refine ixi ?_|(refine ixg ?_;intro _ _)|(refine ixgi ?_;intro _ _));first|rintro _ _ _ _ _ ⟨rfl,rfl⟩ _|rintro _ _ _ _ _ ⟨_,rfl,_⟩ _|rintro _ _ _ _ _ ⟨_,_,_,_,rfl,rfl,_,_⟩ _|intro _ _ _ _ _ _ _))|(refine sx ?_;intro _ _)|((with_reducible refine g_awp ?_);simp only [g0,g1,g2]))
    refine pi ?_ (e1.trans e2)
    rw [show i = (allT l).length by omega, List.take_length]; rfl
theorem s_spec_HeldBytes {h : AH} {l : List Stripe} {v : AV} {F : List Nat} (hs : l.length + szs l ≤ 67108864) (r : SlRep h v l F) : RCalls Tryz.prog n_spec_HeldBytes [v] h (.int .i64 (held l)) := by
  refine reader (c_spec_HeldBytes _) (by simp only [old]) ?_
  unfold p_spec_HeldBytes
  have hsm := r.small
  refine aw_upto l.length (fun i vs h2 => ∃ z, vs = [.int .i64 (held (l.take i)), .int .i64 (i : Int), z] ∧ i ≤ l.length ∧ Ext h h2) ⟨_, rfl, Nat.zero_le _, Ext.refl _⟩ ?_
  rintro i vs h2 _ ⟨z, rfl, hi, e2⟩
  simp only [g0, g1]
  have hb := held_b (l.take i)
  have hle := szs_take_le l i
  refine aw_len r ?_
  refine br (fun hlt => ?_) (fun hge => ?_)
  · obtain ⟨x, hx, -, htk⟩ := drop_step (show i < l.length by omega)
    have hm := szs_mem (List.mem_of_getElem? hx)
    have hx2 : Sz.sz x = x.l.length + szs x.l := rfl
    have hhs : held (l.take (i + 1)) = held (l.take i) + sumI trailBytes x.l := by unfold held; rw [allT_s htk, sumI_app]
    refine aw_ite_t ?_
    have hsx : x.l.length < 281474976710656 := by omega
    refine aw_upto x.l.length (fun j vs h3 => vs = [.int .i64 (held (l.take i) + sumI trailBytes (x.l.take j)), .int .i64 (j : Int)] ∧ j ≤ x.l.length ∧ Ext h h3) ⟨by simp [sumI], Nat.zero_le _, e2⟩ ?_
    rintro j vs h3 _ ⟨rfl, hj, e3⟩
    simp only [g0, g1]
    have hb2 := sumI_tb (x.l.take j)
    have hle2 := szs_take_le x.l j
    refine aw_idx r hx rfl ?_
    rintro b o _ Fi a ⟨v0, rfl, r0⟩ _
    refine vs ?_
    refine br (fun hlt2 => ?_) (fun hge2 => ?_)
    · obtain ⟨y, hy, -, htk2⟩ := drop_step (show j < x.l.length by omega)
      have hm2 := szs_mem (List.mem_of_getElem? hy)
      have hyb := trailBytes_b y
      (repeat' first|refine vs ?_|(refine br ?_ ?_<;>intro _<;>try(exfalso;first|omega|contradiction))|((with_reducible refine g_callf n_spec_BytesOf ?_);refine aw_rcall (s_spec_BytesOf (by omega) slr_auto) ?_)|((with_reducible refine g_idx ?_);((first|refine ix ?_|refine ixi ?_|(refine ixg ?_;intro _ _)|(refine ixgi ?_;intro _ _));first|rintro _ _ _ _ _ ⟨rfl,rfl⟩ _|rintro _ _ _ _ _ ⟨_,rfl,_⟩ _|rintro _ _ _ _ _ ⟨_,_,_,_,rfl,rfl,_,_⟩ _|intro _ _ _ _ _ _ _))|(refine sx ?_;intro _ _)|((with_reducible refine g_awp ?_);simp only [g0,g1,g2]))
      refine aw_addn (by unfold trailBytes at *; omega) (by unfold trailBytes at *; omega) ?_
      (repeat' first|refine vs ?_|(refine br ?_ ?_<;>intro _<;>try(exfalso;first|omega|contradiction))|((with_reducible refine g_idx ?_);((first|refine ix ?_|refine ixi ?_|(refine ixg ?_;intro _ _)|(refine ixgi ?_;intro _ _));first|rintro _ _ _ _ _ ⟨rfl,rfl⟩ _|rintro _ _ _ _ _ ⟨_,rfl,_⟩ _|rintro _ _ _ _ _ ⟨_,_,_,_,rfl,rfl,_,_⟩ _|intro _ _ _ _ _ _ _))|(refine sx ?_;intro _ _)|((with_reducible refine g_awp ?_);simp only [g0,g1,g2]))
      exact ⟨by omega, by rw [sumI_take _ htk2, Int.add_assoc]; rfl, by omega, ext_auto⟩
    · (repeat' first|refine vs ?_|(refine br ?_ ?_<;>intro _<;>try(exfalso;first|omega|contradiction))|((with_reducible refine g_idx ?_);((first|refine ix ?_|refine ixi ?_|(refine ixg ?_;intro _ _)|(refine ixgi ?_;intro _ _));first|rintro _ _ _ _ _ ⟨rfl,rfl⟩ _|rintro _ _ _ _ _ ⟨_,rfl,_⟩ _|rintro _ _ _ _ _ ⟨_,_,_,_,rfl,rfl,_,_⟩ _|intro _ _ _ _ _ _ _))|(refine sx ?_;intro _ _)|((with_reducible refine g_awp ?_);simp only [g0,g1,g2]))
      exact ⟨by omega, _, by rw [hhs, show j = x.l.length by omega, List.take_length]; rfl, by omega, ext_auto⟩
  · (repeat' first|refine vs ?_|(refine br ?_ ?_<;>intro _<;>try(exfalso;first|omega|contradiction))|((with_reducible refine g_idx ?_);((first|refine ix ?_|refine ixi ?_|(refine ixg ?_;intro _ _)|(refine ixgi ?_;intro _ _));first|rintro _ _ _ _ _ ⟨rfl,rfl⟩ _|rintro _ _ _ _ _ ⟨_,rfl,_⟩ _|rintro _ _ _ _ _ ⟨_,_,_,_,rfl,rfl,_,_⟩ _|intro _ _ _ _ _ _ _))|(refine sx ?_;intro _ _)|((with_reducible refine g_awp ?_);simp only [g0,g1,g2]))
    refine pi ?_ ext_auto
    rw [show i = l.length by omega, List.take_length]
end Go.Proofs.YtjnekdbdmoibgaaGreat
end
section
/- A trail that is found; the oldest one. -/
set_option linter.unusedSimpArgs false
set_option linter.unusedVariables false
set_option maxHeartbeats 1000000
namespace Go.Proofs.YtjnekdbdmoibgaaGreat
open Go Go.Ab
section
/- impl.FindTrail -/
/- spec.FindTrail -/
/- impl.Older -/
/- spec.Older -/
/- impl.OldestOf -/
/- spec.OldestOf -/
end
/-! ### The oldest trail -/
def older (a b : Trail) : Prop := a.first < b.first ∨ (a.first = b.first ∧ a.stamp < b.stamp)
noncomputable def oldStep (b : Option Trail) (t : Trail) : Option Trail := match b with
  | none => some t
  | some b => if bp (older t b) = true then some t else some b
noncomputable def oldest (l : List Trail) : Option Trail := l.foldl oldStep none
end Go.Proofs.YtjnekdbdmoibgaaGreat
end
section
/- A trail is dropped. -/
set_option linter.unusedSimpArgs false
set_option linter.unusedVariables false
set_option maxHeartbeats 1000000
namespace Go.Proofs.YtjnekdbdmoibgaaGreat
open Go Go.Ab
section
/- slices.Delete[[]impl.Trail,impl.Trail] -/
/- impl.DropTrail -/
/- spec.DropTrail -/
end
section
variable {P : Program} {h : AH} {Q : Nat → List AV → AH → Prop} {k : AV → Prog}
theorem aw_nilck {b o : Nat} (hk : (k (.ptr b o)).awp P h Q) : (Prog.op (.nilck (.ptr b o)) k).awp P h Q := hk
end
end Go.Proofs.YtjnekdbdmoibgaaGreat
end
section
/- Which stripes may be. -/
set_option linter.unusedSimpArgs false
set_option linter.unusedVariables false
set_option maxHeartbeats 2000000
namespace Go.Proofs.YtjnekdbdmoibgaaGreat
open Go Go.Ab
section
/- slices.Index[[]int,int] -/
def p_slices_Index_int (x0 x1 : AV) : Prog := .op (.len 0 x0) fun v1 => .loop [AV.int .i64 0] (fun vs2 => .op (.bin 0 .lss (g vs2 0) v1) fun v4 => .ite v4 (.op (.idx 1 x0 (g vs2 0)) fun v5 => .op (.ld1 v5) fun v6 => .op (.bin 0 .eql x1 v6) fun v7 => .ite v7 (.fin [.val (g vs2 0)]) (.op (.bin 0 .add (g vs2 0) (AV.int .i64 1)) fun v8 => .leaf 0 [v8])) (.leaf 2 [g vs2 0])) fun t3 vs2 => tsel t3 1 (.leaf 1 vs2) (tsel t3 2 (.fin [.val (AV.int .i64 (-1))]) .bad)
theorem c_slices_Index_int (x0 x1 : AV) : CC Tryz.prog n_slices_Index_int [x0, x1] (p_slices_Index_int x0 x1) := cc Tryz.func332 [0, 1, 7, 8] (fun _ => []) (by kernel_rfl)
/- slices.Contains[[]int,int] -/
def p_slices_Contains_int (x0 x1 : AV) : Prog := .op (.call n_slices_Index_int [x0, x1]) fun v1 => .op (.bin 0 .geq v1 (AV.int .i64 0)) fun v2 => .fin [.val v2]
theorem c_slices_Contains_int (x0 x1 : AV) : CC Tryz.prog n_slices_Contains_int [x0, x1] (p_slices_Contains_int x0 x1) := cc Tryz.func284 [] (fun _ => []) (by kernel_rfl)
/- spec.l11Has -/
def p_spec_l11Has (x0 x1 : AV) : Prog := .loop [AV.int .i64 0] (fun vs1 => .op (.len 0 x0) fun v3 => .op (.bin 0 .lss (g vs1 0) v3) fun v4 => .ite v4 (.op (.idx 1 x0 (g vs1 0)) fun v5 => .op (.ld1 v5) fun v6 => .op (.bin 0 .eql v6 x1) fun v7 => .ite v7 (.fin [.val (AV.bool true)]) (.op (.bin 0 .add (g vs1 0) (AV.int .i64 1)) fun v8 => .leaf 0 [v8])) (.leaf 2 [g vs1 0])) fun t2 vs1 => tsel t2 1 (.leaf 1 vs1) (tsel t2 2 (.fin [.val (AV.bool false)]) .bad)
theorem c_spec_l11Has (x0 x1 : AV) : CC Tryz.prog n_spec_l11Has [x0, x1] (p_spec_l11Has x0 x1) := cc Tryz.func191 [0, 1, 5] (fun _ => []) (by kernel_rfl)
/- impl.StripesOk -/
def p_impl_StripesOk (x0 : AV) : Prog := .op (.len 0 x0) fun v1 => .op (.call n_impl_within [v1, AV.int .i64 1, AV.int .i64 3]) fun v2 => .op (.una .not v2) fun v3 => .ite v3 (.fin [.val (AV.bool false)]) (.op (.len 0 x0) fun v4 => .loop [AV.nils, .tup [], .tup [], AV.int .i64 0, .tup [], .tup [], .tup []] (fun vs5 => .op (.bin 0 .lss (g vs5 3) v4) fun v7 => .ite v7 (.op (.idx 2 x0 (g vs5 3)) fun v8 => .op (.ldn 2 v8) fun v9 => .op (.alloc [AV.int .i64 0, AV.nils]) fun v10 => .op (.st 2 v10 v9) fun v11 => .op (.fad 0 v10) fun v12 => .op (.ld1 v12) fun v13 => .op (.call n_impl_within [v13, AV.int .i64 (-1), AV.int .i64 4]) fun v14 => .op (.una .not v14) fun v15 => .ite v15 (.fin [.val (AV.bool false)]) (.op (.fad 1 v10) fun v16 => .op (.ld1 v16) fun v17 => .op (.len 0 v17) fun v18 => .loop [g vs5 0, AV.int .i64 0] (fun vs19 => .op (.bin 0 .lss (g vs19 1) v18) fun v21 => .ite v21 (.op (.idx 4 v17 (g vs19 1)) fun v22 => .op (.ldn 4 v22) fun v23 => .op (.alloc [AV.int .i64 0, AV.int .i64 0, AV.int .i64 0, AV.nils]) fun v24 => .op (.st 4 v24 v23) fun v25 => .op (.ldn 4 v24) fun v26 => .op (.call n_impl_TrailOk [v26]) fun v27 => .op (.una .not v27) fun v28 => .gop v28 false (.fad 0 v24) fun v29 => .gop v28 false (.ld1 v29) fun v30 => .gop v28 false (.mv x0) fun v31 => .gop v28 false (.len 0 v31) fun v32 => .gop v28 false (.mv (g vs5 3)) fun v33 => .gop v28 false (.call n_impl_StripeOf [v30, v32]) fun v34 => .gop v28 false (.bin 0 .neq v34 v33) fun v35 => .op (.pick v28 (AV.bool true) v35) fun v36 => .gop v36 false (.mv (g vs19 1)) fun v37 => .gop v36 false (.bin 0 .gtr v37 (AV.int .i64 0)) fun v38 => .gop v36 false (.mv v38) fun v39 => .gop v39 true (.fad 1 v10) fun v40 => .gop v39 true (.ld1 v40) fun v41 => .gop v39 true (.mv (g vs19 1)) fun v42 => .gop v39 true (.bin 0 .sub v42 (AV.int .i64 1)) fun v43 => .gop v39 true (.idx 4 v41 v43) fun v44 => .gop v39 true (.fad 0 v44) fun v45 => .gop v39 true (.ld1 v45) fun v46 => .gop v39 true (.fad 0 v24) fun v47 => .gop v39 true (.ld1 v47) fun v48 => .gop v39 true (.bin 0 .geq v46 v48) fun v49 => .gop v36 false (.pick v39 v49 (AV.bool false)) fun v50 => .op (.pick v36 (AV.bool true) v50) fun v51 => .gop v51 false (.mv (g vs19 0)) fun v52 => .gop v51 false (.fad 1 v24) fun v53 => .gop v51 false (.ld1 v53) fun v54 => .gop v51 false (.call n_slices_Contains_int [v52, v54]) fun v55 => .op (.pick v51 (AV.bool true) v55) fun v56 => .ite v56 (.fin [.val (AV.bool false)]) (.op (.fad 1 v24) fun v57 => .op (.ld1 v57) fun v58 => .op (.bslice 1 1 [AV.int .i64 0] [(0, 1, v58)]) fun v59 => .op (.app 1 8 (g vs19 0) v59) fun v60 => .op (.bin 0 .add (g vs19 1) (AV.int .i64 1)) fun v61 => .leaf 0 [v60, v61])) (.leaf 4 [g vs19 0, g vs19 1])) fun t20 vs19 => tsel t20 1 (.leaf 1 vs19) (tsel t20 4 (.op (.bin 0 .add (g vs5 3) (AV.int .i64 1)) fun v62 => .leaf 0 [g vs19 0, g vs5 3, v10, v62, v17, v18, g vs19 1]) .bad))) (.leaf 2 [g vs5 0, g vs5 1, g vs5 2, g vs5 3, g vs5 4, g vs5 5, g vs5 6])) fun t6 vs5 => tsel t6 1 (.leaf 1 vs5) (tsel t6 2 (.fin [.val (AV.bool true)]) .bad))
theorem c_impl_StripesOk (x0 : AV) : CC Tryz.prog n_impl_StripesOk [x0] (p_impl_StripesOk x0) := cc Tryz.func212 [0, 3, 4, 5, 12, 13, 14, 24, 25, 26] (fun r => if r = 12 then [(0, []), (1, []), (2, []), (3, []), (4, []), (5, []), (6, []), (7, []), (9, []), (8, []), (10, []), (11, []), (12, []), (13, []), (14, []), (15, []), (16, []), (17, []), (18, []), (19, []), (20, []), (21, []), (22, []), (23, []), (24, []), (25, []), (26, []), (27, []), (28, []), (29, []), (30, []), (31, []), (32, []), (33, [])] else []) (by kernel_rfl)
/- spec.StripesOk -/
def p_spec_StripesOk (x0 : AV) : Prog := .op (.len 0 x0) fun v1 => .op (.call n_spec_l1In [v1, AV.int .i64 1, AV.int .i64 3]) fun v2 => .op (.una .not v2) fun v3 => .ite v3 (.fin [.val (AV.bool false)]) (.op (.bslice 1 0 [] []) fun v4 => .loop [v4, AV.int .i64 0, .tup []] (fun vs5 => .op (.len 0 x0) fun v7 => .op (.bin 0 .lss (g vs5 1) v7) fun v8 => .ite v8 (.op (.idx 2 x0 (g vs5 1)) fun v9 => .op (.fad 0 v9) fun v10 => .op (.ld1 v10) fun v11 => .op (.call n_spec_l1In [v11, AV.int .i64 (-1), AV.int .i64 4]) fun v12 => .op (.una .not v12) fun v13 => .ite v13 (.fin [.val (AV.bool false)]) (.loop [g vs5 0, AV.int .i64 0] (fun vs14 => .op (.idx 2 x0 (g vs5 1)) fun v16 => .op (.fad 1 v16) fun v17 => .op (.ld1 v17) fun v18 => .op (.len 0 v18) fun v19 => .op (.bin 0 .lss (g vs14 1) v19) fun v20 => .ite v20 (.op (.idx 2 x0 (g vs5 1)) fun v21 => .op (.fad 1 v21) fun v22 => .op (.ld1 v22) fun v23 => .op (.idx 4 v23 (g vs14 1)) fun v24 => .op (.ldn 4 v24) fun v25 => .op (.alloc [AV.int .i64 0, AV.int .i64 0, AV.int .i64 0, AV.nils]) fun v26 => .op (.st 4 v26 v25) fun v27 => .op (.ldn 4 v26) fun v28 => .op (.call n_spec_TrailOk [v28]) fun v29 => .op (.una .not v29) fun v30 => .gop v30 false (.fad 0 v26) fun v31 => .gop v30 false (.ld1 v31) fun v32 => .gop v30 false (.mv x0) fun v33 => .gop v30 false (.len 0 v33) fun v34 => .gop v30 false (.mv (g vs5 1)) fun v35 => .gop v30 false (.call n_spec_StripeOf [v32, v34]) fun v36 => .gop v30 false (.bin 0 .neq v36 v35) fun v37 => .op (.pick v30 (AV.bool true) v37) fun v38 => .gop v38 false (.mv (g vs14 1)) fun v39 => .gop v38 false (.bin 0 .gtr v39 (AV.int .i64 0)) fun v40 => .gop v38 false (.mv v40) fun v41 => .gop v41 true (.mv x0) fun v42 => .gop v41 true (.mv (g vs5 1)) fun v43 => .gop v41 true (.idx 2 v42 v43) fun v44 => .gop v41 true (.fad 1 v44) fun v45 => .gop v41 true (.ld1 v45) fun v46 => .gop v41 true (.mv (g vs14 1)) fun v47 => .gop v41 true (.bin 0 .sub v47 (AV.int .i64 1)) fun v48 => .gop v41 true (.idx 4 v46 v48) fun v49 => .gop v41 true (.fad 0 v49) fun v50 => .gop v41 true (.ld1 v50) fun v51 => .gop v41 true (.fad 0 v26) fun v52 => .gop v41 true (.ld1 v52) fun v53 => .gop v41 true (.bin 0 .geq v51 v53) fun v54 => .gop v38 false (.pick v41 v54 (AV.bool false)) fun v55 => .op (.pick v38 (AV.bool true) v55) fun v56 => .gop v56 false (.mv (g vs14 0)) fun v57 => .gop v56 false (.fad 1 v26) fun v58 => .gop v56 false (.ld1 v58) fun v59 => .gop v56 false (.call n_spec_l11Has [v57, v59]) fun v60 => .op (.pick v56 (AV.bool true) v60) fun v61 => .ite v61 (.fin [.val (AV.bool false)]) (.op (.fad 1 v26) fun v62 => .op (.ld1 v62) fun v63 => .op (.bslice 1 1 [AV.int .i64 0] [(0, 1, v63)]) fun v64 => .op (.app 1 8 (g vs14 0) v64) fun v65 => .op (.bin 0 .add (g vs14 1) (AV.int .i64 1)) fun v66 => .leaf 0 [v65, v66])) (.leaf 4 [g vs14 0, g vs14 1])) fun t15 vs14 => tsel t15 1 (.leaf 1 vs14) (tsel t15 4 (.op (.bin 0 .add (g vs5 1) (AV.int .i64 1)) fun v67 => .leaf 0 [g vs14 0, v67, g vs14 1]) .bad))) (.leaf 2 [g vs5 0, g vs5 1, g vs5 2])) fun t6 vs5 => tsel t6 1 (.leaf 1 vs5) (tsel t6 2 (.fin [.val (AV.bool true)]) .bad))
theorem c_spec_StripesOk (x0 : AV) : CC Tryz.prog n_spec_StripesOk [x0] (p_spec_StripesOk x0) := cc Tryz.func114 [0, 3, 4, 5] (fun r => if r = 13 then [(0, []), (1, []), (2, []), (3, []), (4, []), (5, []), (6, []), (7, []), (9, []), (8, []), (10, []), (11, []), (12, []), (13, []), (14, []), (15, []), (16, []), (17, []), (18, []), (19, []), (20, []), (21, []), (22, []), (23, []), (24, []), (25, []), (26, []), (27, []), (28, []), (29, []), (30, []), (31, []), (32, []), (33, []), (34, []), (35, []), (36, [])] else []) (by kernel_rfl)
end
theorem s_slices_Index_int {h : AH} {xs : List Int} {v : AV} {F : List Nat} {n : Int} (r : SlRep h v xs F) : RCalls Tryz.prog n_slices_Index_int [v, .int .i64 n] h (.int .i64 (idx (fun y => decide (n = y)) xs)) := by
  refine reader (c_slices_Index_int _ _) (by simp only [old]) ?_
  unfold p_slices_Index_int
  have hsm := r.small
  refine aw_len r ?_
  refine aw_upto xs.length (fun i vs h1 => vs = [.int .i64 (i : Int)] ∧ i ≤ xs.length ∧ h1 = h ∧ Upto xs (fun _ y => decide (n = y) = false) i) ⟨rfl, Nat.zero_le _, rfl, up0⟩ ?_
  rintro i vs h1 _ ⟨rfl, hi, rfl, hu⟩
  simp only [g0]
  refine br (fun hlt => ?_) (fun hge => ?_)
  · obtain ⟨x, hx, -, -⟩ := drop_step (show i < xs.length by omega)
    (repeat' first|refine vs ?_|(refine br ?_ ?_<;>intro _<;>try(exfalso;first|omega|contradiction))|((with_reducible refine g_idx ?_);((first|refine ix ?_|refine ixi ?_|(refine ixg ?_;intro _ _)|(refine ixgi ?_;intro _ _));first|rintro _ _ _ _ _ ⟨rfl,rfl⟩ _|rintro _ _ _ _ _ ⟨_,rfl,_⟩ _|rintro _ _ _ _ _ ⟨_,_,_,_,rfl,rfl,_,_⟩ _|intro _ _ _ _ _ _ _))|(refine sx ?_;intro _ _)|((with_reducible refine g_awp ?_);simp only [g0,g1,g2]))
    · rename_i he
      exact pi (idx_at hx (by simp [he]) fun j y hj hy => hu j y hj hy).symm
    · rename_i he
      exact ⟨by omega, rfl, by omega, rfl, upS hu hx (by simp [he])⟩
  · (repeat' first|refine vs ?_|(refine br ?_ ?_<;>intro _<;>try(exfalso;first|omega|contradiction))|((with_reducible refine g_idx ?_);((first|refine ix ?_|refine ixi ?_|(refine ixg ?_;intro _ _)|(refine ixgi ?_;intro _ _));first|rintro _ _ _ _ _ ⟨rfl,rfl⟩ _|rintro _ _ _ _ _ ⟨_,rfl,_⟩ _|rintro _ _ _ _ _ ⟨_,_,_,_,rfl,rfl,_,_⟩ _|intro _ _ _ _ _ _ _))|(refine sx ?_;intro _ _)|((with_reducible refine g_awp ?_);simp only [g0,g1,g2]))
    exact pi (idx_no fun j y hj hy => hu j y (by omega) hy).symm
theorem s_slices_Contains_int {h : AH} {xs : List Int} {v : AV} {F : List Nat} {n : Int} (r : SlRep h v xs F) : RCalls Tryz.prog n_slices_Contains_int [v, .int .i64 n] h (.bool (bp (n ∈ xs))) := by
  refine reader (c_slices_Contains_int _ _) (by simp only [old]) ?_
  unfold p_slices_Contains_int
  (repeat' first|refine vs ?_|(refine br ?_ ?_<;>intro _<;>try(exfalso;first|omega|contradiction))|((with_reducible refine g_callf n_slices_Index_int ?_);refine aw_rcall (s_slices_Index_int slr_auto) ?_)|((with_reducible refine g_idx ?_);((first|refine ix ?_|refine ixi ?_|(refine ixg ?_;intro _ _)|(refine ixgi ?_;intro _ _));first|rintro _ _ _ _ _ ⟨rfl,rfl⟩ _|rintro _ _ _ _ _ ⟨_,rfl,_⟩ _|rintro _ _ _ _ _ ⟨_,_,_,_,rfl,rfl,_,_⟩ _|intro _ _ _ _ _ _ _))|(refine sx ?_;intro _ _)|((with_reducible refine g_awp ?_);simp only [g0,g1,g2]))
  · rename_i hge
    rcases idx_cases (fun y => decide (n = y)) xs with ⟨e, -⟩ | ⟨i, x, e, hx, hp, -⟩
    · omega
    · exact pt (by simp at hp; subst hp; exact List.mem_of_getElem? hx)
  · rename_i hlt
    rcases idx_cases (fun y => decide (n = y)) xs with ⟨e, hf⟩ | ⟨i, x, e, hx, hp, -⟩
    · refine pf fun hm => ?_
      rw [List.filter_eq_self] at hf
      have := hf n hm; simp at this
    · omega
theorem s_spec_l11Has {h : AH} {xs : List Int} {v : AV} {F : List Nat} {n : Int} (r : SlRep h v xs F) : RCalls Tryz.prog n_spec_l11Has [v, .int .i64 n] h (.bool (bp (n ∈ xs))) := by
  refine reader (c_spec_l11Has _ _) (by simp only [old]) ?_
  unfold p_spec_l11Has
  have hsm := r.small
  refine aw_upto xs.length (fun i vs h1 => vs = [.int .i64 (i : Int)] ∧ i ≤ xs.length ∧ h1 = h ∧ Upto xs (fun _ y => ¬ y = n) i) ⟨rfl, Nat.zero_le _, rfl, up0⟩ ?_
  rintro i vs h1 _ ⟨rfl, hi, rfl, hu⟩
  simp only [g0]
  refine aw_len r ?_
  refine br (fun hlt => ?_) (fun hge => ?_)
  · obtain ⟨x, hx, -, -⟩ := drop_step (show i < xs.length by omega)
    (repeat' first|refine vs ?_|(refine br ?_ ?_<;>intro _<;>try(exfalso;first|omega|contradiction))|((with_reducible refine g_idx ?_);((first|refine ix ?_|refine ixi ?_|(refine ixg ?_;intro _ _)|(refine ixgi ?_;intro _ _));first|rintro _ _ _ _ _ ⟨rfl,rfl⟩ _|rintro _ _ _ _ _ ⟨_,rfl,_⟩ _|rintro _ _ _ _ _ ⟨_,_,_,_,rfl,rfl,_,_⟩ _|intro _ _ _ _ _ _ _))|(refine sx ?_;intro _ _)|((with_reducible refine g_awp ?_);simp only [g0,g1,g2]))
    · rename_i he
      exact pt (by subst he; exact List.mem_of_getElem? hx)
    · rename_i he
      exact ⟨by omega, rfl, by omega, rfl, upS hu hx he⟩
  · (repeat' first|refine vs ?_|(refine br ?_ ?_<;>intro _<;>try(exfalso;first|omega|contradiction))|((with_reducible refine g_idx ?_);((first|refine ix ?_|refine ixi ?_|(refine ixg ?_;intro _ _)|(refine ixgi ?_;intro _ _));first|rintro _ _ _ _ _ ⟨rfl,rfl⟩ _|rintro _ _ _ _ _ ⟨_,rfl,_⟩ _|rintro _ _ _ _ _ ⟨_,_,_,_,rfl,rfl,_,_⟩ _|intro _ _ _ _ _ _ _))|(refine sx ?_;intro _ _)|((with_reducible refine g_awp ?_);simp only [g0,g1,g2]))
    rw [show i = xs.length by omega] at hu
    exact pf fun hm => upAll hu n hm rfl

def trOk (l : List Stripe) (i : Nat) (x : Stripe) (k : Nat) (t : Trail) : Prop := trailOk t ∧ stripe t.id l.length = i ∧ (∀ u, 0 < k → x.l[((k : Int) - 1).toNat]? = some u → ¬ t.id ≤ u.id) ∧ t.stamp ∉ (allT (l.take i) ++ x.l.take k).map (·.stamp)
def strOk (l : List Stripe) (i : Nat) (x : Stripe) : Prop := (-1 ≤ x.held ∧ x.held ≤ 4) ∧ ∀ k t, x.l[k]? = some t → trOk l i x k t
def stripesOk (l : List Stripe) : Prop := (1 ≤ (l.length : Int) ∧ (l.length : Int) ≤ 3) ∧ ∀ i x, l[i]? = some x → strOk l i x
def stamps (l : List Stripe) (i : Nat) (x : Stripe) (k : Nat) : List Int := (allT (l.take i) ++ x.l.take k).map (·.stamp)
theorem stamps_s {l : List Stripe} {i : Nat} {x : Stripe} {k : Nat} {t : Trail} (ht : x.l.take (k + 1) = x.l.take k ++ [t]) : stamps l i x (k + 1) = stamps l i x k ++ [t.stamp] := by unfold stamps; rw [ht, ← List.append_assoc, List.map_append]; rfl
theorem stamps_e {l : List Stripe} {i : Nat} {x : Stripe} (ht : l.take (i + 1) = l.take i ++ [x]) : stamps l i x x.l.length = (allT (l.take (i + 1))).map (·.stamp) := by unfold stamps; rw [allT_s ht, List.take_length]
theorem stamps_len (l : List Stripe) (i : Nat) (x : Stripe) (k : Nat) : (stamps l i x k).length ≤ szs (l.take i) + x.l.length := by
  have := allT_b (l.take i)
  unfold stamps; rw [List.length_map, List.length_append, List.length_take]; omega
theorem s_impl_StripesOk {h : AH} {l : List Stripe} {v : AV} {F : List Nat} (ok : ∀ x ∈ l, Cel.ok x) (hs : l.length + szs l ≤ 67108864) (r : SlRep h v l F) : RCalls Tryz.prog n_impl_StripesOk [v] h (.bool (bp (stripesOk l))) := by
  refine reader (c_impl_StripesOk _) (by simp only [old]) ?_
  unfold p_impl_StripesOk
  have hsm := r.small
  (repeat' first|refine vs ?_|(refine br ?_ ?_<;>intro _<;>try(exfalso;first|omega|contradiction))|((with_reducible refine g_callf n_impl_within ?_);(refine aw_rcall_b s_impl_within ?_ ?_ <;> intro hb <;> first | replace hb := inB_t hb | replace hb := inB_f hb))|((with_reducible refine g_idx ?_);((first|refine ix ?_|refine ixi ?_|(refine ixg ?_;intro _ _)|(refine ixgi ?_;intro _ _));first|rintro _ _ _ _ _ ⟨rfl,rfl⟩ _|rintro _ _ _ _ _ ⟨_,rfl,_⟩ _|rintro _ _ _ _ _ ⟨_,_,_,_,rfl,rfl,_,_⟩ _|intro _ _ _ _ _ _ _))|(refine sx ?_;intro _ _)|((with_reducible refine g_awp ?_);simp only [g0,g1,g2]))
  rotate_left
  · exact pf (fun k => by have := k.1; omega)
  refine aw_upto l.length (fun i vs h1 => ∃ u G z1 z2 z4 z5 z6, vs = [u, z1, z2, .int .i64 (i : Int), z4, z5, z6] ∧ i ≤ l.length ∧ Ext h h1 ∧ SlRep h1 u ((allT (l.take i)).map (·.stamp)) G ∧ Own h.n h1 G ∧ Upto l (strOk l) i) ⟨.nils, [], _, _, _, _, _, rfl, Nat.zero_le _, Ext.refl _, SlRep.nils, Own.nil, up0⟩ ?_
  rintro i vs h1 _ ⟨u, G, z1, z2, z4, z5, z6, rfl, hi, e1, ru, ou, hu⟩
  have n1 := e1.1
  simp only [g0, g3]
  refine br (fun hlt => ?_) (fun hge => ?_)
  · obtain ⟨x, hx, -, htk⟩ := drop_step (show i < l.length by omega)
    have hxm := List.mem_of_getElem? hx
    have hm := szs_mem hxm
    have hx2 : Sz.sz x = x.l.length + szs x.l := rfl
    have okx := ok x hxm
    refine vs ?_
    refine aw_idx r hx rfl ?_
    rintro b o _ Fi a ⟨v0, rfl, r0⟩ _
    (repeat' first|refine vs ?_|(refine br ?_ ?_<;>intro _<;>try(exfalso;first|omega|contradiction))|((with_reducible refine g_callf n_impl_within ?_);(refine aw_rcall_b s_impl_within ?_ ?_ <;> intro hb <;> first | replace hb := inB_t hb | replace hb := inB_f hb))|((with_reducible refine g_idx ?_);((first|refine ix ?_|refine ixi ?_|(refine ixg ?_;intro _ _)|(refine ixgi ?_;intro _ _));first|rintro _ _ _ _ _ ⟨rfl,rfl⟩ _|rintro _ _ _ _ _ ⟨_,rfl,_⟩ _|rintro _ _ _ _ _ ⟨_,_,_,_,rfl,rfl,_,_⟩ _|intro _ _ _ _ _ _ _))|(refine sx ?_;intro _ _)|((with_reducible refine g_awp ?_);simp only [g0,g1,g2]))
    rotate_left
    · exact pf (fun k => by have := (k.2 i x hx).1; omega)
    have hle := szs_take_le l i
    refine aw_upto x.l.length (fun k vs h2 => ∃ u G, vs = [u, .int .i64 (k : Int)] ∧ k ≤ x.l.length ∧ Ext h h2 ∧ Bk h2 h1.n [.int .i64 x.held, v0] 0 ∧ h1.n ∉ G ∧ SlRep h2 u (stamps l i x k) G ∧ Own h.n h2 G ∧ Upto x.l (trOk l i x) k) ⟨u, G, rfl, Nat.zero_le _, ext_auto, bk_auto, nin_lt ru (Nat.le_refl _), by unfold stamps; rw [List.take_zero, List.append_nil]; exact slr_auto, ol_auto, up0⟩ ?_
    rintro k vs h2 _ ⟨u2, G2, rfl, hk, e2, bk2, nb2, ru2, ou2, hu2⟩
    have n2 := e2.1
    have nb := bk2.1
    simp only [g0, g1]
    refine br (fun hlt2 => ?_) (fun hge2 => ?_)
    · obtain ⟨t, ht, -, htk2⟩ := drop_step (show k < x.l.length by omega)
      have htm := List.mem_of_getElem? ht
      have hm2 := szs_mem htm
      have okt := okx.2 t htm
      have hsl := stamps_len l i x k
      (repeat' first|refine vs ?_|(refine br ?_ ?_<;>intro _<;>try(exfalso;first|omega|contradiction))|((with_reducible refine g_callf n_impl_TrailOk ?_);(refine aw_rcall_b (s_impl_TrailOk okt.2.2.2 (by omega) slr_auto) ?_ ?_ <;> intro hn <;> first | replace hn := bp_true hn | replace hn := bp_false hn))|((with_reducible refine g_callf n_impl_StripeOf ?_);refine aw_rcall s_impl_StripeOf ?_)|((with_reducible refine g_callf n_slices_Contains_int ?_);(refine aw_rcall_b (s_slices_Contains_int slr_auto) ?_ ?_ <;> intro hc <;> first | replace hc := bp_true hc | replace hc := bp_false hc))|((with_reducible refine g_idx ?_);((first|refine ix ?_|refine ixi ?_|(refine ixg ?_;intro _ _)|(refine ixgi ?_;intro _ _));first|rintro _ _ _ _ _ ⟨rfl,rfl⟩ _|rintro _ _ _ _ _ ⟨_,rfl,_⟩ _|rintro _ _ _ _ _ ⟨_,_,_,_,rfl,rfl,_,_⟩ _|intro _ _ _ _ _ _ _))|(refine sx ?_;intro _ _)|((with_reducible refine g_awp ?_);simp only [g0,g1,g2]))
      all_goals first
        | (refine pf fun k1 => ?_; have k1 := (k1.2 i x hx).2 k t ht; obtain ⟨a1, a2, a3, a4⟩ := k1; first | contradiction | omega | exact a4 (by assumption) | exact a3 _ (by omega) (by assumption) (by omega))
        | skip
      all_goals
        refine app1F (n := h.n) (xs := stamps l i x k) (Fx := G2) (a := t.stamp) slr_auto ⟨rfl, rfl⟩ (by rw [List.append_nil]; exact ol_auto) om_auto rfl ?_ ?_ ?_
        · omega
        · omega
        intro u' h' F' ek kp r' o' hF'
        (repeat' first|refine vs ?_|(refine br ?_ ?_<;>intro _<;>try(exfalso;first|omega|contradiction))|((with_reducible refine g_idx ?_);((first|refine ix ?_|refine ixi ?_|(refine ixg ?_;intro _ _)|(refine ixgi ?_;intro _ _));first|rintro _ _ _ _ _ ⟨rfl,rfl⟩ _|rintro _ _ _ _ _ ⟨_,rfl,_⟩ _|rintro _ _ _ _ _ ⟨_,_,_,_,rfl,rfl,_,_⟩ _|intro _ _ _ _ _ _ _))|(refine sx ?_;intro _ _)|((with_reducible refine g_awp ?_);simp only [g0,g1,g2]))
        refine ⟨by omega, u', F', rfl, by omega, ek h ext_auto (Nat.le_refl _), bk_kp1 kp bk_auto nb2, fun hc => ?_, by rw [stamps_s htk2]; exact r', o', upS hu2 ht ⟨by assumption, by omega, fun u h0 hu => ?_, by assumption⟩⟩
        · rcases hF' _ hc with hc | hc | hc
          · exact nb2 hc
          · cases hc
          · simp only [push_n] at hc; omega
        · first
          | (exfalso; omega)
          | (simp_all; done)
          | (simp_all; omega)
    · (repeat' first|refine vs ?_|(refine br ?_ ?_<;>intro _<;>try(exfalso;first|omega|contradiction))|((with_reducible refine g_idx ?_);((first|refine ix ?_|refine ixi ?_|(refine ixg ?_;intro _ _)|(refine ixgi ?_;intro _ _));first|rintro _ _ _ _ _ ⟨rfl,rfl⟩ _|rintro _ _ _ _ _ ⟨_,rfl,_⟩ _|rintro _ _ _ _ _ ⟨_,_,_,_,rfl,rfl,_,_⟩ _|intro _ _ _ _ _ _ _))|(refine sx ?_;intro _ _)|((with_reducible refine g_awp ?_);simp only [g0,g1,g2]))
      have e : k = x.l.length := by omega
      rw [e, stamps_e htk] at ru2
      rw [e] at hu2
      exact ⟨by omega, u2, G2, _, _, _, _, _, rfl, by omega, ext_auto, ru2, ou2, upS hu hx ⟨by omega, fun k t ht => upEnd hu2 k t ht⟩⟩
  · (repeat' first|refine vs ?_|(refine br ?_ ?_<;>intro _<;>try(exfalso;first|omega|contradiction))|((with_reducible refine g_idx ?_);((first|refine ix ?_|refine ixi ?_|(refine ixg ?_;intro _ _)|(refine ixgi ?_;intro _ _));first|rintro _ _ _ _ _ ⟨rfl,rfl⟩ _|rintro _ _ _ _ _ ⟨_,rfl,_⟩ _|rintro _ _ _ _ _ ⟨_,_,_,_,rfl,rfl,_,_⟩ _|intro _ _ _ _ _ _ _))|(refine sx ?_;intro _ _)|((with_reducible refine g_awp ?_);simp only [g0,g1,g2]))
    rw [show i = l.length by omega] at hu
    exact pt ⟨by omega, fun i x hx => upEnd hu i x hx⟩
theorem s_spec_StripesOk {h : AH} {l : List Stripe} {v : AV} {F : List Nat} (ok : ∀ x ∈ l, Cel.ok x) (hs : l.length + szs l ≤ 67108864) (r : SlRep h v l F) : RCalls Tryz.prog n_spec_StripesOk [v] h (.bool (bp (stripesOk l))) := by
  refine reader (c_spec_StripesOk _) (by simp only [old]) ?_
  unfold p_spec_StripesOk
  have hsm := r.small
  (repeat' first|refine vs ?_|(refine br ?_ ?_<;>intro _<;>try(exfalso;first|omega|contradiction))|((with_reducible refine g_callf n_spec_l1In ?_);(refine aw_rcall_b s_spec_l1In ?_ ?_ <;> intro hb <;> first | replace hb := inB_t hb | replace hb := inB_f hb))|((with_reducible refine g_idx ?_);((first|refine ix ?_|refine ixi ?_|(refine ixg ?_;intro _ _)|(refine ixgi ?_;intro _ _));first|rintro _ _ _ _ _ ⟨rfl,rfl⟩ _|rintro _ _ _ _ _ ⟨_,rfl,_⟩ _|rintro _ _ _ _ _ ⟨_,_,_,_,rfl,rfl,_,_⟩ _|intro _ _ _ _ _ _ _))|(refine sx ?_;intro _ _)|((with_reducible refine g_awp ?_);simp only [g0,g1,g2]))
  rotate_left
  · exact pf (fun k => by have := k.1; omega)
  obtain ⟨re, oe⟩ := empty_own (h := h) (α := Int) (w := 1) rfl
  refine aw_upto l.length (fun i vs h1 => ∃ u G z, vs = [u, .int .i64 (i : Int), z] ∧ i ≤ l.length ∧ Ext h h1 ∧ SlRep h1 u ((allT (l.take i)).map (·.stamp)) G ∧ Own h.n h1 G ∧ Upto l (strOk l) i) ⟨_, _, _, rfl, Nat.zero_le _, ext_auto, re, oe _ (Nat.le_refl _), up0⟩ ?_
  rintro i vs h1 _ ⟨u, G, z, rfl, hi, e1, ru, ou, hu⟩
  have n1 := e1.1
  simp only [g0, g1]
  refine aw_len r ?_
  refine br (fun hlt => ?_) (fun hge => ?_)
  · obtain ⟨x, hx, -, htk⟩ := drop_step (show i < l.length by omega)
    have hxm := List.mem_of_getElem? hx
    have hm := szs_mem hxm
    have hx2 : Sz.sz x = x.l.length + szs x.l := rfl
    have okx := ok x hxm
    (repeat' first|refine vs ?_|(refine br ?_ ?_<;>intro _<;>try(exfalso;first|omega|contradiction))|((with_reducible refine g_callf n_spec_l1In ?_);(refine aw_rcall_b s_spec_l1In ?_ ?_ <;> intro hb <;> first | replace hb := inB_t hb | replace hb := inB_f hb))|((with_reducible refine g_idx ?_);((first|refine ix ?_|refine ixi ?_|(refine ixg ?_;intro _ _)|(refine ixgi ?_;intro _ _));first|rintro _ _ _ _ _ ⟨rfl,rfl⟩ _|rintro _ _ _ _ _ ⟨_,rfl,_⟩ _|rintro _ _ _ _ _ ⟨_,_,_,_,rfl,rfl,_,_⟩ _|intro _ _ _ _ _ _ _))|(refine sx ?_;intro _ _)|((with_reducible refine g_awp ?_);simp only [g0,g1,g2]))
    rotate_left
    · exact pf (fun k => by have := (k.2 i x hx).1; omega)
    have hle := szs_take_le l i
    refine aw_upto x.l.length (fun k vs h2 => ∃ u G, vs = [u, .int .i64 (k : Int)] ∧ k ≤ x.l.length ∧ Ext h h2 ∧ SlRep h2 u (stamps l i x k) G ∧ Own h.n h2 G ∧ Upto x.l (trOk l i x) k) ⟨u, G, rfl, Nat.zero_le _, ext_auto, by unfold stamps; rw [List.take_zero, List.append_nil]; exact slr_auto, ol_auto, up0⟩ ?_
    rintro k vs h2 _ ⟨u2, G2, rfl, hk, e2, ru2, ou2, hu2⟩
    have n2 := e2.1
    simp only [g0, g1]
    refine aw_idx r hx rfl ?_
    rintro b o _ Fi a ⟨v0, rfl, r0⟩ _
    refine vs ?_
    refine br (fun hlt2 => ?_) (fun hge2 => ?_)
    · obtain ⟨t, ht, -, htk2⟩ := drop_step (show k < x.l.length by omega)
      have htm := List.mem_of_getElem? ht
      have hm2 := szs_mem htm
      have okt := okx.2 t htm
      have hsl := stamps_len l i x k
      (repeat' first|refine vs ?_|(refine br ?_ ?_<;>intro _<;>try(exfalso;first|omega|contradiction))|((with_reducible refine g_callf n_spec_TrailOk ?_);(refine aw_rcall_b (s_spec_TrailOk okt.2.2.2 (by omega) slr_auto) ?_ ?_ <;> intro hn <;> first | replace hn := bp_true hn | replace hn := bp_false hn))|((with_reducible refine g_callf n_spec_StripeOf ?_);refine aw_rcall s_spec_StripeOf ?_)|((with_reducible refine g_callf n_spec_l11Has ?_);(refine aw_rcall_b (s_spec_l11Has slr_auto) ?_ ?_ <;> intro hc <;> first | replace hc := bp_true hc | replace hc := bp_false hc))|((with_reducible refine g_idx ?_);((first|refine ix ?_|refine ixi ?_|(refine ixg ?_;intro _ _)|(refine ixgi ?_;intro _ _));first|rintro _ _ _ _ _ ⟨rfl,rfl⟩ _|rintro _ _ _ _ _ ⟨_,rfl,_⟩ _|rintro _ _ _ _ _ ⟨_,_,_,_,rfl,rfl,_,_⟩ _|intro _ _ _ _ _ _ _))|(refine sx ?_;intro _ _)|((with_reducible refine g_awp ?_);simp only [g0,g1,g2]))
      all_goals first
        | (refine pf fun k1 => ?_; have k1 := (k1.2 i x hx).2 k t ht; obtain ⟨a1, a2, a3, a4⟩ := k1; first | contradiction | omega | exact a4 (by assumption) | exact a3 _ (by omega) (by assumption) (by omega))
        | skip
      all_goals
        refine app1 (n := h.n) (xs := stamps l i x k) (Fx := G2) (a := t.stamp) slr_auto ⟨rfl, rfl⟩ (by rw [List.append_nil]; exact ol_auto) om_auto rfl ?_ ?_ ?_
        · omega
        · omega
        intro u' h' F' ek kp r' o'
        (repeat' first|refine vs ?_|(refine br ?_ ?_<;>intro _<;>try(exfalso;first|omega|contradiction))|((with_reducible refine g_idx ?_);((first|refine ix ?_|refine ixi ?_|(refine ixg ?_;intro _ _)|(refine ixgi ?_;intro _ _));first|rintro _ _ _ _ _ ⟨rfl,rfl⟩ _|rintro _ _ _ _ _ ⟨_,rfl,_⟩ _|rintro _ _ _ _ _ ⟨_,_,_,_,rfl,rfl,_,_⟩ _|intro _ _ _ _ _ _ _))|(refine sx ?_;intro _ _)|((with_reducible refine g_awp ?_);simp only [g0,g1,g2]))
        refine ⟨by omega, u', F', rfl, by omega, ek h ext_auto (Nat.le_refl _), by rw [stamps_s htk2]; exact r', o', upS hu2 ht ⟨by assumption, by omega, fun u h0 hu => ?_, by assumption⟩⟩
        first
          | (exfalso; omega)
          | (simp_all; done)
          | (simp_all; omega)
    · (repeat' first|refine vs ?_|(refine br ?_ ?_<;>intro _<;>try(exfalso;first|omega|contradiction))|((with_reducible refine g_idx ?_);((first|refine ix ?_|refine ixi ?_|(refine ixg ?_;intro _ _)|(refine ixgi ?_;intro _ _));first|rintro _ _ _ _ _ ⟨rfl,rfl⟩ _|rintro _ _ _ _ _ ⟨_,rfl,_⟩ _|rintro _ _ _ _ _ ⟨_,_,_,_,rfl,rfl,_,_⟩ _|intro _ _ _ _ _ _ _))|(refine sx ?_;intro _ _)|((with_reducible refine g_awp ?_);simp only [g0,g1,g2]))
      have e : k = x.l.length := by omega
      rw [e, stamps_e htk] at ru2
      rw [e] at hu2
      exact ⟨by omega, u2, G2, _, rfl, by omega, ext_auto, ru2, ou2, upS hu hx ⟨by omega, fun k t ht => upEnd hu2 k t ht⟩⟩
  · (repeat' first|refine vs ?_|(refine br ?_ ?_<;>intro _<;>try(exfalso;first|omega|contradiction))|((with_reducible refine g_idx ?_);((first|refine ix ?_|refine ixi ?_|(refine ixg ?_;intro _ _)|(refine ixgi ?_;intro _ _));first|rintro _ _ _ _ _ ⟨rfl,rfl⟩ _|rintro _ _ _ _ _ ⟨_,rfl,_⟩ _|rintro _ _ _ _ _ ⟨_,_,_,_,rfl,rfl,_,_⟩ _|intro _ _ _ _ _ _ _))|(refine sx ?_;intro _ _)|((with_reducible refine g_awp ?_);simp only [g0,g1,g2]))
    rw [show i = l.length by omega] at hu
    exact pt ⟨by omega, fun i x hx => upEnd hu i x hx⟩
end Go.Proofs.YtjnekdbdmoibgaaGreat
end
section
/- Sizes of what FindTrail, OldestOf and DropTrail hand back. -/
set_option linter.unusedSimpArgs false
set_option linter.unusedVariables false
namespace Go.Proofs.YtjnekdbdmoibgaaGreat
open Go Go.Ab
end Go.Proofs.YtjnekdbdmoibgaaGreat
end
section
/- Copies of items. -/
set_option linter.unusedSimpArgs false
set_option linter.unusedVariables false
set_option maxHeartbeats 2000000
namespace Go.Proofs.YtjnekdbdmoibgaaGreat
open Go Go.Ab
section
/- impl.copyItems -/
def p_impl_copyItems (x0 : AV) : Prog := .op (.len 0 x0) fun v1 => .loop [AV.nils, AV.int .i64 0] (fun vs2 => .op (.bin 0 .lss (g vs2 1) v1) fun v4 => .ite v4 (.op (.idx 7 x0 (g vs2 1)) fun v5 => .op (.ldn 7 v5) fun v6 => .op (.alloc z7_a90) fun v7 => .op (.st 7 v7 v6) fun v8 => .op (.fad 0 v7) fun v9 => .op (.ld1 v9) fun v10 => .op (.fad 1 v7) fun v11 => .op (.ldn 6 v11) fun v12 => .op (.call n_impl_copySpan [v12]) fun v13 => .chk (.ld1 v9) v10 (.op (.build z7_a90 [(0, 1, v10), (1, 6, v13)]) fun v14 => .op (.bslice 7 1 z7_a90 [(0, 7, v14)]) fun v15 => .op (.app 7 72 (g vs2 0) v15) fun v16 => .op (.bin 0 .add (g vs2 1) (AV.int .i64 1)) fun v17 => .leaf 0 [v16, v17])) (.leaf 2 [g vs2 0, g vs2 1])) fun t3 vs2 => tsel t3 1 (.leaf 1 vs2) (tsel t3 2 (.fin [.val (g vs2 0)]) .bad)
theorem c_impl_copyItems (x0 : AV) : CC Tryz.prog n_impl_copyItems [x0] (p_impl_copyItems x0) := cc Tryz.func138 [3, 6, 7, 8] (fun r => if r = 5 then [(0, []), (1, []), (2, []), (3, []), (4, []), (5, [2]), (6, []), (7, []), (8, []), (9, [])] else []) (by kernel_rfl)
/- spec.l14Items -/
def p_spec_l14Items (x0 : AV) : Prog := .op (.bslice 7 0 [] []) fun v1 => .loop [v1, AV.int .i64 0] (fun vs2 => .op (.len 0 x0) fun v4 => .op (.bin 0 .lss (g vs2 1) v4) fun v5 => .ite v5 (.op (.idx 7 x0 (g vs2 1)) fun v6 => .op (.fad 0 v6) fun v7 => .op (.ld1 v7) fun v8 => .op (.idx 7 x0 (g vs2 1)) fun v9 => .op (.fad 1 v9) fun v10 => .op (.ldn 6 v10) fun v11 => .op (.call n_spec_l3Copy [v11]) fun v12 => .chk (.ld1 v7) v8 (.op (.build z7_a90 [(0, 1, v8), (1, 6, v12)]) fun v13 => .op (.bslice 7 1 z7_a90 [(0, 7, v13)]) fun v14 => .op (.app 7 72 (g vs2 0) v14) fun v15 => .op (.bin 0 .add (g vs2 1) (AV.int .i64 1)) fun v16 => .leaf 0 [v15, v16])) (.leaf 2 [g vs2 0, g vs2 1])) fun t3 vs2 => tsel t3 1 (.leaf 1 vs2) (tsel t3 2 (.fin [.val (g vs2 0)]) .bad)
theorem c_spec_l14Items (x0 : AV) : CC Tryz.prog n_spec_l14Items [x0] (p_spec_l14Items x0) := cc Tryz.func110 [0, 3, 4] (fun r => if r = 5 then [(0, []), (1, []), (2, []), (3, []), (4, []), (5, []), (6, []), (7, []), (8, []), (9, []), (10, []), (11, [5]), (12, []), (13, []), (14, []), (15, [])] else []) (by kernel_rfl)
end
theorem s_impl_copyItems (xs : List Itm) (hs : xs.length + szs xs ≤ 67108864) : CopyL Tryz.prog n_impl_copyItems xs := by
  intro v F h r
  refine c_impl_copyItems _ ?_
  unfold p_impl_copyItems
  have hsm := r.small
  refine aw_len r ?_
  refine aw_upto xs.length (fun i vs h1 => ∃ u G, vs = [u, .int .i64 (i : Int)] ∧ i ≤ xs.length ∧ Ext h h1 ∧ SlRep h1 u (xs.take i) G ∧ Own h.n h1 G) ⟨.nils, [], rfl, Nat.zero_le _, Ext.refl _, SlRep.nils, Own.nil⟩ ?_
  rintro i vs h1 _ ⟨u, G, rfl, hi, e1, ru, ou⟩
  have n1 := e1.1
  simp only [g0, g1]
  refine br (fun hlt => ?_) (fun hge => ?_)
  · obtain ⟨x, hx, -, htk⟩ := drop_step (show i < xs.length by omega)
    have hm := szs_mem (List.mem_of_getElem? hx)
    have hx2 : Sz.sz x = Sz.sz x.s := rfl
    refine vs ?_
    refine aw_idx r hx rfl ?_
    rintro b o _ Fi a ⟨v0, rfl, r0⟩ _
    (repeat' first|refine vs ?_|(refine br ?_ ?_<;>intro _<;>try(exfalso;first|omega|contradiction))|((with_reducible refine g_callf n_impl_copySpan ?_);(refine aw_call (s_impl_copySpan x.s (by omega) _ _ _ ⟨_, rfl, slr_auto⟩) ?_; rintro _ h2 ⟨e2, _, G2, rfl, ⟨w2, rfl, q2⟩, o2⟩; have n2 := e2.1; (try simp only [push_n, upd_n] at n2)))|((with_reducible refine g_idx ?_);((first|refine ix ?_|refine ixi ?_|(refine ixg ?_;intro _ _)|(refine ixgi ?_;intro _ _));first|rintro _ _ _ _ _ ⟨rfl,rfl⟩ _|rintro _ _ _ _ _ ⟨_,rfl,_⟩ _|rintro _ _ _ _ _ ⟨_,_,_,_,rfl,rfl,_,_⟩ _|intro _ _ _ _ _ _ _))|(refine sx ?_;intro _ _)|((with_reducible refine g_awp ?_);simp only [g0,g1,g2]))
    have hlen : (xs.take i).length = i := by rw [List.length_take]; omega
    refine app1 (n := h.n) (xs := xs.take i) (Fx := G) (a := x) slr_auto ⟨_, rfl, q2⟩ (own_app (ol_auto) o2 (by simp only [push_n]; omega) dis_auto) om_auto rfl ?_ ?_ ?_
    · rw [hlen]; omega
    · rw [hlen]; omega
    intro u' h' F' ek kp r' o'
    (repeat' first|refine vs ?_|(refine br ?_ ?_<;>intro _<;>try(exfalso;first|omega|contradiction))|((with_reducible refine g_idx ?_);((first|refine ix ?_|refine ixi ?_|(refine ixg ?_;intro _ _)|(refine ixgi ?_;intro _ _));first|rintro _ _ _ _ _ ⟨rfl,rfl⟩ _|rintro _ _ _ _ _ ⟨_,rfl,_⟩ _|rintro _ _ _ _ _ ⟨_,_,_,_,rfl,rfl,_,_⟩ _|intro _ _ _ _ _ _ _))|(refine sx ?_;intro _ _)|((with_reducible refine g_awp ?_);simp only [g0,g1,g2]))
    exact ⟨by omega, u', F', rfl, by omega, ek h ext_auto (Nat.le_refl _), by rw [htk]; exact r', o'⟩
  · (repeat' first|refine vs ?_|(refine br ?_ ?_<;>intro _<;>try(exfalso;first|omega|contradiction))|((with_reducible refine g_idx ?_);((first|refine ix ?_|refine ixi ?_|(refine ixg ?_;intro _ _)|(refine ixgi ?_;intro _ _));first|rintro _ _ _ _ _ ⟨rfl,rfl⟩ _|rintro _ _ _ _ _ ⟨_,rfl,_⟩ _|rintro _ _ _ _ _ ⟨_,_,_,_,rfl,rfl,_,_⟩ _|intro _ _ _ _ _ _ _))|(refine sx ?_;intro _ _)|((with_reducible refine g_awp ?_);simp only [g0,g1,g2]))
    exact ⟨rfl, u, rfl, e1, G, by rw [show i = xs.length by omega, List.take_length] at ru; exact ru, ou⟩
theorem s_spec_l14Items (xs : List Itm) (hs : xs.length + szs xs ≤ 67108864) : CopyL Tryz.prog n_spec_l14Items xs := by
  intro v F h r
  refine c_spec_l14Items _ ?_
  unfold p_spec_l14Items
  have hsm := r.small
  obtain ⟨re, oe⟩ := empty_own (h := h) (α := Itm) (w := 7) rfl
  refine vs ?_
  refine aw_upto xs.length (fun i vs h1 => ∃ u G, vs = [u, .int .i64 (i : Int)] ∧ i ≤ xs.length ∧ Ext h h1 ∧ SlRep h1 u (xs.take i) G ∧ Own h.n h1 G) ⟨_, _, rfl, Nat.zero_le _, (Ext.refl _).push _, by rw [List.take_zero]; exact re, oe _ (Nat.le_refl _)⟩ ?_
  rintro i vs h1 _ ⟨u, G, rfl, hi, e1, ru, ou⟩
  have n1 := e1.1
  simp only [g0, g1]
  refine aw_len r ?_
  refine br (fun hlt => ?_) (fun hge => ?_)
  · obtain ⟨x, hx, -, htk⟩ := drop_step (show i < xs.length by omega)
    have hm := szs_mem (List.mem_of_getElem? hx)
    have hx2 : Sz.sz x = Sz.sz x.s := rfl
    (repeat' first|refine vs ?_|(refine br ?_ ?_<;>intro _<;>try(exfalso;first|omega|contradiction))|((with_reducible refine g_callf n_spec_l3Copy ?_);(refine aw_call (s_spec_l3Copy x.s (by omega) _ _ _ ⟨_, rfl, slr_auto⟩) ?_; rintro _ h2 ⟨e2, _, G2, rfl, ⟨w2, rfl, q2⟩, o2⟩; have n2 := e2.1; (try simp only [push_n, upd_n] at n2)))|((with_reducible refine g_idx ?_);((first|refine ix ?_|refine ixi ?_|(refine ixg ?_;intro _ _)|(refine ixgi ?_;intro _ _));first|rintro _ _ _ _ _ ⟨rfl,rfl⟩ _|rintro _ _ _ _ _ ⟨_,rfl,_⟩ _|rintro _ _ _ _ _ ⟨_,_,_,_,rfl,rfl,_,_⟩ _|intro _ _ _ _ _ _ _))|(refine sx ?_;intro _ _)|((with_reducible refine g_awp ?_);simp only [g0,g1,g2]))
    have hlen : (xs.take i).length = i := by rw [List.length_take]; omega
    refine app1 (n := h.n) (xs := xs.take i) (Fx := G) (a := x) slr_auto ⟨_, rfl, q2⟩ (own_app (ol_auto) o2 (by omega) dis_auto) om_auto rfl ?_ ?_ ?_
    · rw [hlen]; omega
    · rw [hlen]; omega
    intro u' h' F' ek kp r' o'
    (repeat' first|refine vs ?_|(refine br ?_ ?_<;>intro _<;>try(exfalso;first|omega|contradiction))|((with_reducible refine g_idx ?_);((first|refine ix ?_|refine ixi ?_|(refine ixg ?_;intro _ _)|(refine ixgi ?_;intro _ _));first|rintro _ _ _ _ _ ⟨rfl,rfl⟩ _|rintro _ _ _ _ _ ⟨_,rfl,_⟩ _|rintro _ _ _ _ _ ⟨_,_,_,_,rfl,rfl,_,_⟩ _|intro _ _ _ _ _ _ _))|(refine sx ?_;intro _ _)|((with_reducible refine g_awp ?_);simp only [g0,g1,g2]))
    exact ⟨by omega, u', F', rfl, by omega, ek h ext_auto (Nat.le_refl _), by rw [htk]; exact r', o'⟩
  · (repeat' first|refine vs ?_|(refine br ?_ ?_<;>intro _<;>try(exfalso;first|omega|contradiction))|((with_reducible refine g_idx ?_);((first|refine ix ?_|refine ixi ?_|(refine ixg ?_;intro _ _)|(refine ixgi ?_;intro _ _));first|rintro _ _ _ _ _ ⟨rfl,rfl⟩ _|rintro _ _ _ _ _ ⟨_,rfl,_⟩ _|rintro _ _ _ _ _ ⟨_,_,_,_,rfl,rfl,_,_⟩ _|intro _ _ _ _ _ _ _))|(refine sx ?_;intro _ _)|((with_reducible refine g_awp ?_);simp only [g0,g1,g2]))
    exact ⟨rfl, u, rfl, e1, G, by rw [show i = xs.length by omega, List.take_length] at ru; exact ru, ou⟩
end Go.Proofs.YtjnekdbdmoibgaaGreat
end
section
/- Copies of deeds. -/
set_option linter.unusedSimpArgs false
set_option linter.unusedVariables false
set_option maxHeartbeats 2000000
namespace Go.Proofs.YtjnekdbdmoibgaaGreat
open Go Go.Ab
section
/- impl.copyDeeds -/
def p_impl_copyDeeds (x0 : AV) : Prog := .op (.len 0 x0) fun v1 => .loop [AV.nils, AV.int .i64 0] (fun vs2 => .op (.bin 0 .lss (g vs2 1) v1) fun v4 => .ite v4 (.op (.idx 20 x0 (g vs2 1)) fun v5 => .op (.ldn 20 v5) fun v6 => .op (.alloc z20_1ff) fun v7 => .op (.st 20 v7 v6) fun v8 => .op (.fad 2 v7) fun v9 => .op (.ldn 6 v9) fun v10 => .op (.call n_impl_copySpan [v10]) fun v11 => .op (.fad 2 v7) fun v12 => .op (.st 6 v12 v11) fun v13 => .op (.ldn 20 v7) fun v14 => .op (.bslice 20 1 z20_1ff [(0, 20, v14)]) fun v15 => .op (.app 20 168 (g vs2 0) v15) fun v16 => .op (.bin 0 .add (g vs2 1) (AV.int .i64 1)) fun v17 => .leaf 0 [v16, v17]) (.leaf 2 [g vs2 0, g vs2 1])) fun t3 vs2 => tsel t3 1 (.leaf 1 vs2) (tsel t3 2 (.fin [.val (g vs2 0)]) .bad)
theorem c_impl_copyDeeds (x0 : AV) : CC Tryz.prog n_impl_copyDeeds [x0] (p_impl_copyDeeds x0) := cc Tryz.func139 [3, 6, 7, 8] (fun _ => []) (by kernel_rfl)
/- spec.l15Copy -/
def p_spec_l15Copy (x0 : AV) : Prog := .op (.box x0) fun v1 => .op (.alloc z20_1ff) fun v2 => .op (.fad 2 v1) fun v3 => .op (.ldn 6 v3) fun v4 => .op (.call n_spec_l3Copy [v4]) fun v5 => .op (.fad 2 v1) fun v6 => .op (.st 6 v6 v5) fun v7 => .op (.ldn 20 v1) fun v8 => .op (.st 20 v2 v8) fun v9 => .fin [.cn 20 v2]
theorem c_spec_l15Copy (x0 : AV) : CC Tryz.prog n_spec_l15Copy [x0] (p_spec_l15Copy x0) := cc Tryz.func188 [] (fun _ => []) (by kernel_rfl)
end
theorem s_impl_copyDeeds (xs : List Deed) (hs : xs.length + szs xs ≤ 67108864) : CopyL Tryz.prog n_impl_copyDeeds xs := by
  intro v F h r
  refine c_impl_copyDeeds _ ?_
  unfold p_impl_copyDeeds
  have hsm := r.small
  refine aw_len r ?_
  refine aw_upto xs.length (fun i vs h1 => ∃ u G, vs = [u, .int .i64 (i : Int)] ∧ i ≤ xs.length ∧ Ext h h1 ∧ SlRep h1 u (xs.take i) G ∧ Own h.n h1 G) ⟨.nils, [], rfl, Nat.zero_le _, Ext.refl _, SlRep.nils, Own.nil⟩ ?_
  rintro i vs h1 _ ⟨u, G, rfl, hi, e1, ru, ou⟩
  have n1 := e1.1
  simp only [g0, g1]
  refine br (fun hlt => ?_) (fun hge => ?_)
  · obtain ⟨x, hx, -, htk⟩ := drop_step (show i < xs.length by omega)
    have hm := szs_mem (List.mem_of_getElem? hx)
    have hx2 : Sz.sz x = Sz.sz x.s := rfl
    refine vs ?_
    refine aw_idx r hx rfl ?_
    rintro b o _ Fi a ⟨v0, rfl, r0⟩ _
    (repeat' first|refine vs ?_|(refine br ?_ ?_<;>intro _<;>try(exfalso;first|omega|contradiction))|((with_reducible refine g_callf n_impl_copySpan ?_);(refine aw_call (s_impl_copySpan x.s (by omega) _ _ _ ⟨_, rfl, slr_auto⟩) ?_; rintro _ h2 ⟨e2, _, G2, rfl, ⟨w2, rfl, q2⟩, o2⟩; have n2 := e2.1; (try simp only [push_n, upd_n] at n2)))|((with_reducible refine g_idx ?_);((first|refine ix ?_|refine ixi ?_|(refine ixg ?_;intro _ _)|(refine ixgi ?_;intro _ _));first|rintro _ _ _ _ _ ⟨rfl,rfl⟩ _|rintro _ _ _ _ _ ⟨_,rfl,_⟩ _|rintro _ _ _ _ _ ⟨_,_,_,_,rfl,rfl,_,_⟩ _|intro _ _ _ _ _ _ _))|(refine sx ?_;intro _ _)|((with_reducible refine g_awp ?_);simp only [g0,g1,g2]))
    have hlen : (xs.take i).length = i := by rw [List.length_take]; omega
    refine app1 (n := h.n) (xs := xs.take i) (Fx := G) (a := x) slr_auto ⟨_, rfl, slr_auto⟩ (own_app (ol_auto) (ol_auto : Own (h1.n + 1) _ G2) (by omega) dis_auto) om_auto rfl ?_ ?_ ?_
    · rw [hlen]; omega
    · rw [hlen]; omega
    intro u' h' F' ek kp r' o'
    (repeat' first|refine vs ?_|(refine br ?_ ?_<;>intro _<;>try(exfalso;first|omega|contradiction))|((with_reducible refine g_idx ?_);((first|refine ix ?_|refine ixi ?_|(refine ixg ?_;intro _ _)|(refine ixgi ?_;intro _ _));first|rintro _ _ _ _ _ ⟨rfl,rfl⟩ _|rintro _ _ _ _ _ ⟨_,rfl,_⟩ _|rintro _ _ _ _ _ ⟨_,_,_,_,rfl,rfl,_,_⟩ _|intro _ _ _ _ _ _ _))|(refine sx ?_;intro _ _)|((with_reducible refine g_awp ?_);simp only [g0,g1,g2]))
    exact ⟨by omega, u', F', rfl, by omega, ek h ext_auto (Nat.le_refl _), by rw [htk]; exact r', o'⟩
  · (repeat' first|refine vs ?_|(refine br ?_ ?_<;>intro _<;>try(exfalso;first|omega|contradiction))|((with_reducible refine g_idx ?_);((first|refine ix ?_|refine ixi ?_|(refine ixg ?_;intro _ _)|(refine ixgi ?_;intro _ _));first|rintro _ _ _ _ _ ⟨rfl,rfl⟩ _|rintro _ _ _ _ _ ⟨_,rfl,_⟩ _|rintro _ _ _ _ _ ⟨_,_,_,_,rfl,rfl,_,_⟩ _|intro _ _ _ _ _ _ _))|(refine sx ?_;intro _ _)|((with_reducible refine g_awp ?_);simp only [g0,g1,g2]))
    exact ⟨rfl, u, rfl, e1, G, by rw [show i = xs.length by omega, List.take_length] at ru; exact ru, ou⟩
theorem s_spec_l15Copy (x : Deed) (hs : Sz.sz x ≤ 67108864) : CopyX Deed Tryz.prog n_spec_l15Copy x := by
  rintro cs F h ⟨v0, rfl, r0⟩
  have hx2 : Sz.sz x = Sz.sz x.s := rfl
  refine c_spec_l15Copy _ ?_
  unfold p_spec_l15Copy
  (repeat' first|refine vs ?_|(refine br ?_ ?_<;>intro _<;>try(exfalso;first|omega|contradiction))|((with_reducible refine g_callf n_spec_l3Copy ?_);(refine aw_call (s_spec_l3Copy x.s (by omega) _ _ _ ⟨_, rfl, slr_auto⟩) ?_; rintro _ h2 ⟨e2, _, G2, rfl, ⟨w2, rfl, q2⟩, o2⟩; have n2 := e2.1; (try simp only [push_n, upd_n] at n2)))|((with_reducible refine g_idx ?_);((first|refine ix ?_|refine ixi ?_|(refine ixg ?_;intro _ _)|(refine ixgi ?_;intro _ _));first|rintro _ _ _ _ _ ⟨rfl,rfl⟩ _|rintro _ _ _ _ _ ⟨_,rfl,_⟩ _|rintro _ _ _ _ _ ⟨_,_,_,_,rfl,rfl,_,_⟩ _|intro _ _ _ _ _ _ _))|(refine sx ?_;intro _ _)|((with_reducible refine g_awp ?_);simp only [g0,g1,g2]))
  exact ⟨rfl, _, rfl, ext_auto, _, _, rfl, ⟨_, rfl, slr_auto⟩, ol_auto⟩
end Go.Proofs.YtjnekdbdmoibgaaGreat
end
section
/- Copies of deeds and tasks, by the reference. -/
set_option linter.unusedSimpArgs false
set_option linter.unusedVariables false
set_option maxHeartbeats 2000000
namespace Go.Proofs.YtjnekdbdmoibgaaGreat
open Go Go.Ab
section
/- spec.l15All -/
def p_spec_l15All (x0 : AV) : Prog := .op (.bslice 20 0 [] []) fun v1 => .loop [v1, AV.int .i64 0] (fun vs2 => .op (.len 0 x0) fun v4 => .op (.bin 0 .lss (g vs2 1) v4) fun v5 => .ite v5 (.op (.idx 20 x0 (g vs2 1)) fun v6 => .op (.ldn 20 v6) fun v7 => .op (.call n_spec_l15Copy [v7]) fun v8 => .op (.alloc z20_1ff) fun v9 => .op (.st 20 v9 v8) fun v10 => .op (.ldn 20 v9) fun v11 => .op (.bslice 20 1 z20_1ff [(0, 20, v11)]) fun v12 => .op (.app 20 168 (g vs2 0) v12) fun v13 => .op (.bin 0 .add (g vs2 1) (AV.int .i64 1)) fun v14 => .leaf 0 [v13, v14]) (.leaf 2 [g vs2 0, g vs2 1])) fun t3 vs2 => tsel t3 1 (.leaf 1 vs2) (tsel t3 2 (.fin [.val (g vs2 0)]) .bad)
theorem c_spec_l15All (x0 : AV) : CC Tryz.prog n_spec_l15All [x0] (p_spec_l15All x0) := cc Tryz.func112 [0, 3, 4] (fun _ => []) (by kernel_rfl)
/- spec.l14Copy -/
def p_spec_l14Copy (x0 : AV) : Prog := .op (.box x0) fun v1 => .op (.alloc z12_f83) fun v2 => .op (.ldn 12 v1) fun v3 => .op (.alloc z12_f83) fun v4 => .op (.st 12 v4 v3) fun v5 => .op (.fad 2 v1) fun v6 => .op (.ldn 6 v6) fun v7 => .op (.call n_spec_l3Copy [v7]) fun v8 => .op (.fad 2 v4) fun v9 => .op (.st 6 v9 v8) fun v10 => .op (.fad 10 v1) fun v11 => .op (.ld1 v11) fun v12 => .op (.call n_spec_l14Items [v12]) fun v13 => .op (.fad 10 v4) fun v14 => .op (.st 1 v14 v13) fun v15 => .op (.ldn 12 v4) fun v16 => .op (.st 12 v2 v16) fun v17 => .fin [.cn 12 v2]
theorem c_spec_l14Copy (x0 : AV) : CC Tryz.prog n_spec_l14Copy [x0] (p_spec_l14Copy x0) := cc Tryz.func111 [] (fun _ => []) (by kernel_rfl)
end
theorem s_spec_l15All (xs : List Deed) (hs : xs.length + szs xs ≤ 67108864) : CopyL Tryz.prog n_spec_l15All xs := fun v F h r =>
  c_spec_l15All _ (mapS_spec rfl rfl (by decide) (fun x hx => s_spec_l15Copy x (by have := szs_mem hx; omega)) r (by omega))
theorem s_spec_l14Copy (x : Task) (hs : Sz.sz x ≤ 67108864) : CopyX Task Tryz.prog n_spec_l14Copy x := by
  rintro cs F h ⟨v0, v1, F0, F1, rfl, rfl, r0, r1⟩
  have hx2 : Sz.sz x = Sz.sz x.s + (x.hand.length + szs x.hand) := rfl
  refine c_spec_l14Copy _ ?_
  unfold p_spec_l14Copy
  (repeat' first|refine vs ?_|(refine br ?_ ?_<;>intro _<;>try(exfalso;first|omega|contradiction))|((with_reducible refine g_callf n_spec_l3Copy ?_);(refine aw_call (s_spec_l3Copy x.s (by omega) _ _ _ ⟨_, rfl, slr_auto⟩) ?_; rintro _ h2 ⟨e2, _, G2, rfl, ⟨w2, rfl, q2⟩, o2⟩; have n2 := e2.1; (try simp only [push_n, upd_n] at n2)))|((with_reducible refine g_callf n_spec_l14Items ?_);(refine aw_call (s_spec_l14Items x.hand (by omega) _ _ _ slr_auto) ?_; rintro w3 h3 ⟨e3, G3, q3, o3⟩; have n3 := e3.1; (try simp only [push_n, upd_n] at n3)))|((with_reducible refine g_idx ?_);((first|refine ix ?_|refine ixi ?_|(refine ixg ?_;intro _ _)|(refine ixgi ?_;intro _ _));first|rintro _ _ _ _ _ ⟨rfl,rfl⟩ _|rintro _ _ _ _ _ ⟨_,rfl,_⟩ _|rintro _ _ _ _ _ ⟨_,_,_,_,rfl,rfl,_,_⟩ _|intro _ _ _ _ _ _ _))|(refine sx ?_;intro _ _)|((with_reducible refine g_awp ?_);simp only [g0,g1,g2]))
  exact ⟨rfl, _, rfl, ext_auto, _, _, rfl, ⟨_, _, _, _, rfl, rfl, slr_auto, slr_auto⟩, (ol_app2 oll_auto oll_auto dis_auto).1⟩
end Go.Proofs.YtjnekdbdmoibgaaGreat
end
