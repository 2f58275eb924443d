/- Names, plain strings, attributes. -/
import Derived.Test.YtpcgbddmdipfbaaW1
set_option linter.unusedSimpArgs false
set_option linter.unusedVariables false
namespace Go.Proofs.Ytpcgbddmdipfbaa
open Go Go.Ab
section
/- impl.NameOk -/
def p_impl_NameOk (x0 : AV) : Prog := .loop [AV.int .i64 0] (fun vs1 => .op (.len 1 x0) fun v3 => .op (.bin 0 .lss (g vs1 0) v3) fun v4 => .ite v4 (.op (.sidx x0 (g vs1 0)) fun v5 => .op (.bin 0 .lss v5 (AV.int .u8 97)) fun v6 => .gop v6 false (.mv x0) fun v7 => .gop v6 false (.mv (g vs1 0)) fun v8 => .gop v6 false (.sidx v7 v8) fun v9 => .gop v6 false (.bin 0 .gtr v9 (AV.int .u8 122)) fun v10 => .op (.pick v6 (AV.bool true) v10) fun v11 => .ite v11 (.fin [.val (AV.bool false)]) (.op (.bin 0 .add (g vs1 0) (AV.int .i64 1)) fun v12 => .leaf 0 [v12])) (.leaf 2 [g vs1 0])) fun t2 vs1 => tsel t2 1 (.leaf 1 vs1) (tsel t2 2 (.op (.len 1 x0) fun v13 => .op (.call n_impl_within [v13, AV.int .i64 1, AV.int .i64 8]) fun v14 => .fin [.val v14]) .bad)
theorem c_impl_NameOk (x0 : AV) : CC Try.prog n_impl_NameOk [x0] (p_impl_NameOk x0) := cc Try.func232 [0, 3] (fun _ => []) (by kernel_rfl)
/- spec.NameOk -/
def p_spec_NameOk (x0 : AV) : Prog := .loop [AV.int .i64 0] (fun vs1 => .op (.len 1 x0) fun v3 => .op (.bin 0 .lss (g vs1 0) v3) fun v4 => .ite v4 (.op (.sidx x0 (g vs1 0)) fun v5 => .op (.bin 0 .lss v5 (AV.int .u8 97)) fun v6 => .gop v6 false (.mv x0) fun v7 => .gop v6 false (.mv (g vs1 0)) fun v8 => .gop v6 false (.sidx v7 v8) fun v9 => .gop v6 false (.bin 0 .gtr v9 (AV.int .u8 122)) fun v10 => .op (.pick v6 (AV.bool true) v10) fun v11 => .ite v11 (.fin [.val (AV.bool false)]) (.op (.bin 0 .add (g vs1 0) (AV.int .i64 1)) fun v12 => .leaf 0 [v12])) (.leaf 2 [g vs1 0])) fun t2 vs1 => tsel t2 1 (.leaf 1 vs1) (tsel t2 2 (.op (.len 1 x0) fun v13 => .op (.call n_spec_l1In [v13, AV.int .i64 1, AV.int .i64 8]) fun v14 => .fin [.val v14]) .bad)
theorem c_spec_NameOk (x0 : AV) : CC Try.prog n_spec_NameOk [x0] (p_spec_NameOk x0) := cc Try.func234 [0, 3] (fun _ => []) (by kernel_rfl)
/- impl.PlainOk -/
def p_impl_PlainOk (x0 : AV) : Prog := .loop [AV.int .i64 0] (fun vs1 => .op (.len 1 x0) fun v3 => .op (.bin 0 .lss (g vs1 0) v3) fun v4 => .ite v4 (.op (.sidx x0 (g vs1 0)) fun v5 => .op (.conv .i64 v5) fun v6 => .op (.call n_impl_within [v6, AV.int .i64 32, AV.int .i64 126]) fun v7 => .op (.una .not v7) fun v8 => .gop v8 false (.mv x0) fun v9 => .gop v8 false (.mv (g vs1 0)) fun v10 => .gop v8 false (.sidx v9 v10) fun v11 => .gop v8 false (.bin 0 .eql v11 (AV.int .u8 34)) fun v12 => .op (.pick v8 (AV.bool true) v12) fun v13 => .ite v13 (.fin [.val (AV.bool false)]) (.op (.bin 0 .add (g vs1 0) (AV.int .i64 1)) fun v14 => .leaf 0 [v14])) (.leaf 2 [g vs1 0])) fun t2 vs1 => tsel t2 1 (.leaf 1 vs1) (tsel t2 2 (.op (.len 1 x0) fun v15 => .op (.bin 0 .leq v15 (AV.int .i64 20)) fun v16 => .fin [.val v16]) .bad)
theorem c_impl_PlainOk (x0 : AV) : CC Try.prog n_impl_PlainOk [x0] (p_impl_PlainOk x0) := cc Try.func233 [0, 3] (fun _ => []) (by kernel_rfl)
/- spec.PlainOk -/
def p_spec_PlainOk (x0 : AV) : Prog := .loop [AV.int .i64 0] (fun vs1 => .op (.len 1 x0) fun v3 => .op (.bin 0 .lss (g vs1 0) v3) fun v4 => .ite v4 (.op (.sidx x0 (g vs1 0)) fun v5 => .op (.bin 0 .lss v5 (AV.int .u8 32)) fun v6 => .gop v6 false (.mv x0) fun v7 => .gop v6 false (.mv (g vs1 0)) fun v8 => .gop v6 false (.sidx v7 v8) fun v9 => .gop v6 false (.bin 0 .gtr v9 (AV.int .u8 126)) fun v10 => .op (.pick v6 (AV.bool true) v10) fun v11 => .gop v11 false (.mv x0) fun v12 => .gop v11 false (.mv (g vs1 0)) fun v13 => .gop v11 false (.sidx v12 v13) fun v14 => .gop v11 false (.bin 0 .eql v14 (AV.int .u8 34)) fun v15 => .op (.pick v11 (AV.bool true) v15) fun v16 => .ite v16 (.fin [.val (AV.bool false)]) (.op (.bin 0 .add (g vs1 0) (AV.int .i64 1)) fun v17 => .leaf 0 [v17])) (.leaf 2 [g vs1 0])) fun t2 vs1 => tsel t2 1 (.leaf 1 vs1) (tsel t2 2 (.op (.len 1 x0) fun v18 => .op (.bin 0 .leq v18 (AV.int .i64 20)) fun v19 => .fin [.val v19]) .bad)
theorem c_spec_PlainOk (x0 : AV) : CC Try.prog n_spec_PlainOk [x0] (p_spec_PlainOk x0) := cc Try.func235 [0, 3] (fun _ => []) (by kernel_rfl)
/- impl.AttrOk -/
def p_impl_AttrOk (x0 : AV) : Prog := .op (.box x0) fun v1 => .op (.fad 1 v1) fun v2 => .op (.ld1 v2) fun v3 => .ite v3 (.op (.fad 0 v1) fun v4 => .op (.ld1 v4) fun v5 => .op (.call n_impl_NameOk [v5]) fun v6 => .gop v6 true (.fad 2 v1) fun v7 => .gop v6 true (.ld1 v7) fun v8 => .gop v6 true (.call n_impl_within [v8, AV.int .i64 0, AV.int .i64 2147483647]) fun v9 => .op (.pick v6 v9 (AV.bool false)) fun v10 => .gop v10 true (.fad 3 v1) fun v11 => .gop v10 true (.ld1 v11) fun v12 => .gop v10 true (.bin 1 .eql v12 (AV.str ⟨#[]⟩)) fun v13 => .op (.pick v10 v13 (AV.bool false)) fun v14 => .fin [.val v14]) (.op (.fad 0 v1) fun v15 => .op (.ld1 v15) fun v16 => .op (.call n_impl_NameOk [v16]) fun v17 => .gop v17 true (.fad 3 v1) fun v18 => .gop v17 true (.ld1 v18) fun v19 => .gop v17 true (.call n_impl_PlainOk [v19]) fun v20 => .op (.pick v17 v20 (AV.bool false)) fun v21 => .gop v21 true (.fad 2 v1) fun v22 => .gop v21 true (.ld1 v22) fun v23 => .gop v21 true (.bin 0 .eql v23 (AV.int .i64 0)) fun v24 => .op (.pick v21 v24 (AV.bool false)) fun v25 => .fin [.val v25])
theorem c_impl_AttrOk (x0 : AV) : CC Try.prog n_impl_AttrOk [x0] (p_impl_AttrOk x0) := cc Try.func222 [] (fun _ => []) (by kernel_rfl)
/- spec.AttrOk -/
def p_spec_AttrOk (x0 : AV) : Prog := .op (.box x0) fun v1 => .op (.fad 0 v1) fun v2 => .op (.ld1 v2) fun v3 => .op (.call n_spec_NameOk [v3]) fun v4 => .op (.una .not v4) fun v5 => .ite v5 (.fin [.val (AV.bool false)]) (.op (.fad 1 v1) fun v6 => .op (.ld1 v6) fun v7 => .ite v7 (.op (.fad 2 v1) fun v8 => .op (.ld1 v8) fun v9 => .op (.call n_spec_l1In [v9, AV.int .i64 0, AV.int .i64 2147483647]) fun v10 => .gop v10 true (.fad 3 v1) fun v11 => .gop v10 true (.ld1 v11) fun v12 => .gop v10 true (.bin 1 .eql v12 (AV.str ⟨#[]⟩)) fun v13 => .op (.pick v10 v13 (AV.bool false)) fun v14 => .fin [.val v14]) (.op (.fad 2 v1) fun v15 => .op (.ld1 v15) fun v16 => .op (.bin 0 .eql v16 (AV.int .i64 0)) fun v17 => .gop v17 true (.fad 3 v1) fun v18 => .gop v17 true (.ld1 v18) fun v19 => .gop v17 true (.call n_spec_PlainOk [v19]) fun v20 => .op (.pick v17 v20 (AV.bool false)) fun v21 => .fin [.val v21]))
theorem c_spec_AttrOk (x0 : AV) : CC Try.prog n_spec_AttrOk [x0] (p_spec_AttrOk x0) := cc Try.func223 [] (fun _ => []) (by kernel_rfl)
/- impl.AttrSize -/
def p_impl_AttrSize (x0 : AV) : Prog := .op (.box x0) fun v1 => .op (.fad 1 v1) fun v2 => .op (.ld1 v2) fun v3 => .ite v3 (.op (.fad 0 v1) fun v4 => .op (.ld1 v4) fun v5 => .op (.len 1 v5) fun v6 => .op (.bin 0 .add v6 (AV.int .i64 4)) fun v7 => .fin [.val v7]) (.op (.fad 0 v1) fun v8 => .op (.ld1 v8) fun v9 => .op (.len 1 v9) fun v10 => .op (.fad 3 v1) fun v11 => .op (.ld1 v11) fun v12 => .op (.len 1 v12) fun v13 => .op (.bin 0 .add v10 v13) fun v14 => .fin [.val v14])
theorem c_impl_AttrSize (x0 : AV) : CC Try.prog n_impl_AttrSize [x0] (p_impl_AttrSize x0) := cc Try.func175 [] (fun _ => []) (by kernel_rfl)
/- spec.AttrSize -/
def p_spec_AttrSize (x0 : AV) : Prog := .op (.box x0) fun v1 => .op (.fad 1 v1) fun v2 => .op (.ld1 v2) fun v3 => .ite v3 (.op (.fad 0 v1) fun v4 => .op (.ld1 v4) fun v5 => .op (.len 1 v5) fun v6 => .op (.bin 0 .add v6 (AV.int .i64 4)) fun v7 => .fin [.val v7]) (.op (.fad 0 v1) fun v8 => .op (.ld1 v8) fun v9 => .op (.len 1 v9) fun v10 => .op (.fad 3 v1) fun v11 => .op (.ld1 v11) fun v12 => .op (.len 1 v12) fun v13 => .op (.bin 0 .add v10 v13) fun v14 => .fin [.val v14])
theorem c_spec_AttrSize (x0 : AV) : CC Try.prog n_spec_AttrSize [x0] (p_spec_AttrSize x0) := cc Try.func224 [] (fun _ => []) (by kernel_rfl)
end
def nameC (c : UInt8) : Prop := 97 ≤ (c.toNat : Int) ∧ (c.toNat : Int) ≤ 122
def nameOk (s : ByteArray) : Prop := (∀ c ∈ bys s, nameC c) ∧ 1 ≤ (s.size : Int) ∧ (s.size : Int) ≤ 8
theorem s_impl_NameOk {h : AH} {s : ByteArray} (hs : s.size ≤ maxLen) : RCalls Try.prog n_impl_NameOk [.str s] h (.bool (bp (nameOk s))) := by
  refine reader (c_impl_NameOk _) (by simp only [old]) ?_
  unfold p_impl_NameOk
  have hs : s.size ≤ 9223372036854775807 := hs
  have hl := bys_len s
  refine aw_upto s.size (fun i vs h1 => vs = [.int .i64 (i : Int)] ∧ i ≤ s.size ∧ h1 = h ∧ Upto (bys s) (fun _ => nameC) i) ⟨rfl, Nat.zero_le _, rfl, up0⟩ ?_
  rintro i vs h1 _ ⟨rfl, hi, rfl, hu⟩
  simp only [g0]
  (repeat' first|refine vs ?_|(refine br ?_ ?_<;>intro _<;>try(exfalso;first|omega|contradiction))|((with_reducible refine g_callf n_impl_within ?_);refine aw_rcall s_impl_within ?_)|((with_reducible refine g_idx ?_);((first|refine ix ?_|refine ixi ?_|(refine ixg ?_;intro _ _)|(refine ixgi ?_;intro _ _));first|rintro _ _ _ _ _ ⟨rfl,rfl⟩ _|rintro _ _ _ _ _ ⟨_,rfl,_⟩ _|rintro _ _ _ _ _ ⟨_,_,_,_,rfl,rfl,_,_⟩ _|intro _ _ _ _ _ _ _))|(refine sx ?_;intro _ _)|((with_reducible refine g_awp ?_);simp only [g0,g1,g2]))
  · exact pf fun k => upNot (by assumption) (by unfold nameC; omega) k.1
  · exact pf fun k => upNot (by assumption) (by unfold nameC; omega) k.1
  · exact ⟨by omega, rfl, by omega, rfl, upS hu (by assumption) (by unfold nameC; omega)⟩
  · have e : i = (bys s).length := by omega
    rw [e] at hu
    exact pb (bp_eq (by simp only [inB, decide_eq_true_eq, nameOk]; exact ⟨fun k => ⟨upAll hu, k⟩, fun k => k.2⟩))
theorem s_spec_NameOk {h : AH} {s : ByteArray} (hs : s.size ≤ maxLen) : RCalls Try.prog n_spec_NameOk [.str s] h (.bool (bp (nameOk s))) := by
  refine reader (c_spec_NameOk _) (by simp only [old]) ?_
  unfold p_spec_NameOk
  have hs : s.size ≤ 9223372036854775807 := hs
  have hl := bys_len s
  refine aw_upto s.size (fun i vs h1 => vs = [.int .i64 (i : Int)] ∧ i ≤ s.size ∧ h1 = h ∧ Upto (bys s) (fun _ => nameC) i) ⟨rfl, Nat.zero_le _, rfl, up0⟩ ?_
  rintro i vs h1 _ ⟨rfl, hi, rfl, hu⟩
  simp only [g0]
  (repeat' first|refine vs ?_|(refine br ?_ ?_<;>intro _<;>try(exfalso;first|omega|contradiction))|((with_reducible refine g_callf n_spec_l1In ?_);refine aw_rcall s_spec_l1In ?_)|((with_reducible refine g_idx ?_);((first|refine ix ?_|refine ixi ?_|(refine ixg ?_;intro _ _)|(refine ixgi ?_;intro _ _));first|rintro _ _ _ _ _ ⟨rfl,rfl⟩ _|rintro _ _ _ _ _ ⟨_,rfl,_⟩ _|rintro _ _ _ _ _ ⟨_,_,_,_,rfl,rfl,_,_⟩ _|intro _ _ _ _ _ _ _))|(refine sx ?_;intro _ _)|((with_reducible refine g_awp ?_);simp only [g0,g1,g2]))
  · exact pf fun k => upNot (by assumption) (by unfold nameC; omega) k.1
  · exact pf fun k => upNot (by assumption) (by unfold nameC; omega) k.1
  · exact ⟨by omega, rfl, by omega, rfl, upS hu (by assumption) (by unfold nameC; omega)⟩
  · have e : i = (bys s).length := by omega
    rw [e] at hu
    exact pb (bp_eq (by simp only [inB, decide_eq_true_eq, nameOk]; exact ⟨fun k => ⟨upAll hu, k⟩, fun k => k.2⟩))

def plainC (c : UInt8) : Prop := 32 ≤ (c.toNat : Int) ∧ (c.toNat : Int) ≤ 126 ∧ (c.toNat : Int) ≠ 34
def plainOk (s : ByteArray) : Prop := (∀ c ∈ bys s, plainC c) ∧ (s.size : Int) ≤ 20
theorem s_impl_PlainOk {h : AH} {s : ByteArray} (hs : s.size ≤ maxLen) : RCalls Try.prog n_impl_PlainOk [.str s] h (.bool (bp (plainOk s))) := by
  refine reader (c_impl_PlainOk _) (by simp only [old]) ?_
  unfold p_impl_PlainOk
  have hs : s.size ≤ 9223372036854775807 := hs
  have hl := bys_len s
  refine aw_upto s.size (fun i vs h1 => vs = [.int .i64 (i : Int)] ∧ i ≤ s.size ∧ h1 = h ∧ Upto (bys s) (fun _ => plainC) i) ⟨rfl, Nat.zero_le _, rfl, up0⟩ ?_
  rintro i vs h1 _ ⟨rfl, hi, rfl, hu⟩
  simp only [g0]
  (repeat' first|refine vs ?_|(refine br ?_ ?_<;>intro _<;>try(exfalso;first|omega|contradiction))|((with_reducible refine g_callf n_impl_within ?_);(refine aw_rcall_b s_impl_within ?_ ?_ <;> intro hb <;> first | replace hb := inB_t hb | replace hb := inB_f hb))|((with_reducible refine g_idx ?_);((first|refine ix ?_|refine ixi ?_|(refine ixg ?_;intro _ _)|(refine ixgi ?_;intro _ _));first|rintro _ _ _ _ _ ⟨rfl,rfl⟩ _|rintro _ _ _ _ _ ⟨_,rfl,_⟩ _|rintro _ _ _ _ _ ⟨_,_,_,_,rfl,rfl,_,_⟩ _|intro _ _ _ _ _ _ _))|(refine sx ?_;intro _ _)|((with_reducible refine g_awp ?_);simp only [g0,g1,g2]))
  all_goals first
    | exact pf fun k => upNot (by assumption) (by unfold plainC; omega) k.1
    | exact ⟨by omega, rfl, by omega, rfl, upS hu (by assumption) (by unfold plainC; omega)⟩
    | (have e : i = (bys s).length := by omega
       rw [e] at hu
       first | exact pt ⟨upAll hu, by omega⟩ | exact pf fun k => by have := k.2; omega)
theorem s_spec_PlainOk {h : AH} {s : ByteArray} (hs : s.size ≤ maxLen) : RCalls Try.prog n_spec_PlainOk [.str s] h (.bool (bp (plainOk s))) := by
  refine reader (c_spec_PlainOk _) (by simp only [old]) ?_
  unfold p_spec_PlainOk
  have hs : s.size ≤ 9223372036854775807 := hs
  have hl := bys_len s
  refine aw_upto s.size (fun i vs h1 => vs = [.int .i64 (i : Int)] ∧ i ≤ s.size ∧ h1 = h ∧ Upto (bys s) (fun _ => plainC) i) ⟨rfl, Nat.zero_le _, rfl, up0⟩ ?_
  rintro i vs h1 _ ⟨rfl, hi, rfl, hu⟩
  simp only [g0]
  (repeat' first|refine vs ?_|(refine br ?_ ?_<;>intro _<;>try(exfalso;first|omega|contradiction))|((with_reducible refine g_idx ?_);((first|refine ix ?_|refine ixi ?_|(refine ixg ?_;intro _ _)|(refine ixgi ?_;intro _ _));first|rintro _ _ _ _ _ ⟨rfl,rfl⟩ _|rintro _ _ _ _ _ ⟨_,rfl,_⟩ _|rintro _ _ _ _ _ ⟨_,_,_,_,rfl,rfl,_,_⟩ _|intro _ _ _ _ _ _ _))|(refine sx ?_;intro _ _)|((with_reducible refine g_awp ?_);simp only [g0,g1,g2]))
  all_goals first
    | exact pf fun k => upNot (by assumption) (by unfold plainC; omega) k.1
    | exact ⟨by omega, rfl, by omega, rfl, upS hu (by assumption) (by unfold plainC; omega)⟩
    | (have e : i = (bys s).length := by omega
       rw [e] at hu
       first | exact pt ⟨upAll hu, by omega⟩ | exact pf fun k => by have := k.2; omega)

def empty : ByteArray := ⟨#[]⟩
def attrOk (a : Attr) : Prop := nameOk a.key ∧ ((a.num = true ∧ (0 ≤ a.n ∧ a.n ≤ 2147483647) ∧ a.text = empty) ∨ (a.num = false ∧ a.n = 0 ∧ plainOk a.text))
theorem s_impl_AttrOk {h : AH} {a : Attr} (ok : Cel.ok a) : RCalls Try.prog n_impl_AttrOk [.agg a.cs] h (.bool (bp (attrOk a))) := by
  refine reader (c_impl_AttrOk _) (by simp only [old]) ?_
  unfold p_impl_AttrOk
  obtain ⟨k1, k2, k3⟩ := ok
  have k1 : a.key.size ≤ maxLen := k1
  have k3 : a.text.size ≤ maxLen := k3
  (repeat' first|refine vs ?_|(refine br ?_ ?_<;>intro _<;>try(exfalso;first|omega|contradiction))|((with_reducible refine g_callf n_impl_NameOk ?_);(refine aw_rcall_b (s_impl_NameOk k1) ?_ ?_ <;> intro hn <;> first | replace hn := bp_true hn | replace hn := bp_false hn))|((with_reducible refine g_callf n_impl_PlainOk ?_);(refine aw_rcall_b (s_impl_PlainOk k3) ?_ ?_ <;> intro hp <;> first | replace hp := bp_true hp | replace hp := bp_false hp))|((with_reducible refine g_callf n_impl_within ?_);(refine aw_rcall_b s_impl_within ?_ ?_ <;> intro hb <;> first | replace hb := inB_t hb | replace hb := inB_f hb))|((with_reducible refine g_idx ?_);((first|refine ix ?_|refine ixi ?_|(refine ixg ?_;intro _ _)|(refine ixgi ?_;intro _ _));first|rintro _ _ _ _ _ ⟨rfl,rfl⟩ _|rintro _ _ _ _ _ ⟨_,rfl,_⟩ _|rintro _ _ _ _ _ ⟨_,_,_,_,rfl,rfl,_,_⟩ _|intro _ _ _ _ _ _ _))|(refine sx ?_;intro _ _)|((with_reducible refine g_awp ?_);simp only [g0,g1,g2]))
  all_goals first
    | (refine pt ?_; unfold attrOk; simp_all [empty]; done)
    | (refine pf ?_; unfold attrOk; simp_all [empty]; done)
    | (refine pf ?_; unfold attrOk; simp_all [empty]; intros; omega)
theorem s_spec_AttrOk {h : AH} {a : Attr} (ok : Cel.ok a) : RCalls Try.prog n_spec_AttrOk [.agg a.cs] h (.bool (bp (attrOk a))) := by
  refine reader (c_spec_AttrOk _) (by simp only [old]) ?_
  unfold p_spec_AttrOk
  obtain ⟨k1, k2, k3⟩ := ok
  have k1 : a.key.size ≤ maxLen := k1
  have k3 : a.text.size ≤ maxLen := k3
  (repeat' first|refine vs ?_|(refine br ?_ ?_<;>intro _<;>try(exfalso;first|omega|contradiction))|((with_reducible refine g_callf n_spec_NameOk ?_);(refine aw_rcall_b (s_spec_NameOk k1) ?_ ?_ <;> intro hn <;> first | replace hn := bp_true hn | replace hn := bp_false hn))|((with_reducible refine g_callf n_spec_PlainOk ?_);(refine aw_rcall_b (s_spec_PlainOk k3) ?_ ?_ <;> intro hp <;> first | replace hp := bp_true hp | replace hp := bp_false hp))|((with_reducible refine g_callf n_spec_l1In ?_);(refine aw_rcall_b s_spec_l1In ?_ ?_ <;> intro hb <;> first | replace hb := inB_t hb | replace hb := inB_f hb))|((with_reducible refine g_idx ?_);((first|refine ix ?_|refine ixi ?_|(refine ixg ?_;intro _ _)|(refine ixgi ?_;intro _ _));first|rintro _ _ _ _ _ ⟨rfl,rfl⟩ _|rintro _ _ _ _ _ ⟨_,rfl,_⟩ _|rintro _ _ _ _ _ ⟨_,_,_,_,rfl,rfl,_,_⟩ _|intro _ _ _ _ _ _ _))|(refine sx ?_;intro _ _)|((with_reducible refine g_awp ?_);simp only [g0,g1,g2]))
  all_goals first
    | (refine pt ?_; unfold attrOk; simp_all [empty]; done)
    | (refine pf ?_; unfold attrOk; simp_all [empty]; done)
    | (refine pf ?_; unfold attrOk; simp_all [empty]; intros; omega)

def attrSize (a : Attr) : Int := if a.num = true then a.key.size + 4 else a.key.size + a.text.size
theorem s_impl_AttrSize {h : AH} {a : Attr} (hs : Sz.sz a ≤ 67108864) : RCalls Try.prog n_impl_AttrSize [.agg a.cs] h (.int .i64 (attrSize a)) := by
  refine reader (c_impl_AttrSize _) (by simp only [old]) ?_
  unfold p_impl_AttrSize
  have hs : a.key.size + a.text.size ≤ 67108864 := hs
  (repeat' first|refine vs ?_|(refine br ?_ ?_<;>intro _<;>try(exfalso;first|omega|contradiction))|((with_reducible refine g_idx ?_);((first|refine ix ?_|refine ixi ?_|(refine ixg ?_;intro _ _)|(refine ixgi ?_;intro _ _));first|rintro _ _ _ _ _ ⟨rfl,rfl⟩ _|rintro _ _ _ _ _ ⟨_,rfl,_⟩ _|rintro _ _ _ _ _ ⟨_,_,_,_,rfl,rfl,_,_⟩ _|intro _ _ _ _ _ _ _))|(refine sx ?_;intro _ _)|((with_reducible refine g_awp ?_);simp only [g0,g1,g2]))
  all_goals exact pi (by simp [attrSize, *])
theorem s_spec_AttrSize {h : AH} {a : Attr} (hs : Sz.sz a ≤ 67108864) : RCalls Try.prog n_spec_AttrSize [.agg a.cs] h (.int .i64 (attrSize a)) := by
  refine reader (c_spec_AttrSize _) (by simp only [old]) ?_
  unfold p_spec_AttrSize
  have hs : a.key.size + a.text.size ≤ 67108864 := hs
  (repeat' first|refine vs ?_|(refine br ?_ ?_<;>intro _<;>try(exfalso;first|omega|contradiction))|((with_reducible refine g_idx ?_);((first|refine ix ?_|refine ixi ?_|(refine ixg ?_;intro _ _)|(refine ixgi ?_;intro _ _));first|rintro _ _ _ _ _ ⟨rfl,rfl⟩ _|rintro _ _ _ _ _ ⟨_,rfl,_⟩ _|rintro _ _ _ _ _ ⟨_,_,_,_,rfl,rfl,_,_⟩ _|intro _ _ _ _ _ _ _))|(refine sx ?_;intro _ _)|((with_reducible refine g_awp ?_);simp only [g0,g1,g2]))
  all_goals exact pi (by simp [attrSize, *])
end Go.Proofs.Ytpcgbddmdipfbaa
