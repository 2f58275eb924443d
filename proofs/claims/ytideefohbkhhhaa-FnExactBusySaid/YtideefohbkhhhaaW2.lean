
/- Names, plain strings, attributes. -/
import Derived.Test.YtideefohbkhhhaaW1
set_option linter.unusedSimpArgs false
set_option linter.unusedVariables false
namespace Go.Proofs.Ytideefohbkhhhaa
open Go Go.Ab
section
/- impl.NameOk -/
def p_impl_NameOk (x0 : AV) : Prog := .loop [AV.int .i64 0] (fun vs1 => .op (.len 1 x0) fun v3 => .op (.bin 0 .lss (g vs1 0) v3) fun v4 => .ite v4 (.op (.sidx x0 (g vs1 0)) fun v5 => .op (.bin 0 .lss v5 (AV.int .u8 97)) fun v6 => .gop v6 false (.mv x0) fun v7 => .gop v6 false (.mv (g vs1 0)) fun v8 => .gop v6 false (.sidx v7 v8) fun v9 => .gop v6 false (.bin 0 .gtr v9 (AV.int .u8 122)) fun v10 => .op (.pick v6 (AV.bool true) v10) fun v11 => .ite v11 (.fin [.val (AV.bool false)]) (.op (.bin 0 .add (g vs1 0) (AV.int .i64 1)) fun v12 => .leaf 0 [v12])) (.leaf 2 [g vs1 0])) fun t2 vs1 => tsel t2 1 (.leaf 1 vs1) (tsel t2 2 (.op (.len 1 x0) fun v13 => .op (.call n_impl_within [v13, AV.int .i64 1, AV.int .i64 8]) fun v14 => .fin [.val v14]) .bad)
theorem c_impl_NameOk (x0 : AV) : CC Try.prog n_impl_NameOk [x0] (p_impl_NameOk x0) := cc Try.func136 [0, 3] (fun _ => []) (by kernel_rfl)
/- spec.NameOk -/
def p_spec_NameOk (x0 : AV) : Prog := .loop [AV.int .i64 0] (fun vs1 => .op (.len 1 x0) fun v3 => .op (.bin 0 .lss (g vs1 0) v3) fun v4 => .ite v4 (.op (.sidx x0 (g vs1 0)) fun v5 => .op (.bin 0 .lss v5 (AV.int .u8 97)) fun v6 => .gop v6 false (.mv x0) fun v7 => .gop v6 false (.mv (g vs1 0)) fun v8 => .gop v6 false (.sidx v7 v8) fun v9 => .gop v6 false (.bin 0 .gtr v9 (AV.int .u8 122)) fun v10 => .op (.pick v6 (AV.bool true) v10) fun v11 => .ite v11 (.fin [.val (AV.bool false)]) (.op (.bin 0 .add (g vs1 0) (AV.int .i64 1)) fun v12 => .leaf 0 [v12])) (.leaf 2 [g vs1 0])) fun t2 vs1 => tsel t2 1 (.leaf 1 vs1) (tsel t2 2 (.op (.len 1 x0) fun v13 => .op (.call n_spec_l1In [v13, AV.int .i64 1, AV.int .i64 8]) fun v14 => .fin [.val v14]) .bad)
theorem c_spec_NameOk (x0 : AV) : CC Try.prog n_spec_NameOk [x0] (p_spec_NameOk x0) := cc Try.func134 [0, 3] (fun _ => []) (by kernel_rfl)
/- impl.PlainOk -/
def p_impl_PlainOk (x0 : AV) : Prog := .loop [AV.int .i64 0] (fun vs1 => .op (.len 1 x0) fun v3 => .op (.bin 0 .lss (g vs1 0) v3) fun v4 => .ite v4 (.op (.sidx x0 (g vs1 0)) fun v5 => .op (.conv .i64 v5) fun v6 => .op (.call n_impl_within [v6, AV.int .i64 32, AV.int .i64 126]) fun v7 => .op (.una .not v7) fun v8 => .gop v8 false (.mv x0) fun v9 => .gop v8 false (.mv (g vs1 0)) fun v10 => .gop v8 false (.sidx v9 v10) fun v11 => .gop v8 false (.bin 0 .eql v11 (AV.int .u8 34)) fun v12 => .op (.pick v8 (AV.bool true) v12) fun v13 => .ite v13 (.fin [.val (AV.bool false)]) (.op (.bin 0 .add (g vs1 0) (AV.int .i64 1)) fun v14 => .leaf 0 [v14])) (.leaf 2 [g vs1 0])) fun t2 vs1 => tsel t2 1 (.leaf 1 vs1) (tsel t2 2 (.op (.len 1 x0) fun v15 => .op (.bin 0 .leq v15 (AV.int .i64 20)) fun v16 => .fin [.val v16]) .bad)
theorem c_impl_PlainOk (x0 : AV) : CC Try.prog n_impl_PlainOk [x0] (p_impl_PlainOk x0) := cc Try.func137 [0, 3] (fun _ => []) (by kernel_rfl)
/- spec.PlainOk -/
def p_spec_PlainOk (x0 : AV) : Prog := .loop [AV.int .i64 0] (fun vs1 => .op (.len 1 x0) fun v3 => .op (.bin 0 .lss (g vs1 0) v3) fun v4 => .ite v4 (.op (.sidx x0 (g vs1 0)) fun v5 => .op (.bin 0 .lss v5 (AV.int .u8 32)) fun v6 => .gop v6 false (.mv x0) fun v7 => .gop v6 false (.mv (g vs1 0)) fun v8 => .gop v6 false (.sidx v7 v8) fun v9 => .gop v6 false (.bin 0 .gtr v9 (AV.int .u8 126)) fun v10 => .op (.pick v6 (AV.bool true) v10) fun v11 => .gop v11 false (.mv x0) fun v12 => .gop v11 false (.mv (g vs1 0)) fun v13 => .gop v11 false (.sidx v12 v13) fun v14 => .gop v11 false (.bin 0 .eql v14 (AV.int .u8 34)) fun v15 => .op (.pick v11 (AV.bool true) v15) fun v16 => .ite v16 (.fin [.val (AV.bool false)]) (.op (.bin 0 .add (g vs1 0) (AV.int .i64 1)) fun v17 => .leaf 0 [v17])) (.leaf 2 [g vs1 0])) fun t2 vs1 => tsel t2 1 (.leaf 1 vs1) (tsel t2 2 (.op (.len 1 x0) fun v18 => .op (.bin 0 .leq v18 (AV.int .i64 20)) fun v19 => .fin [.val v19]) .bad)
theorem c_spec_PlainOk (x0 : AV) : CC Try.prog n_spec_PlainOk [x0] (p_spec_PlainOk x0) := cc Try.func135 [0, 3] (fun _ => []) (by kernel_rfl)
end
def nameC (c : UInt8) : Prop := 97 ≤ (c.toNat : Int) ∧ (c.toNat : Int) ≤ 122
def nameOk (s : ByteArray) : Prop := (∀ c ∈ bys s, nameC c) ∧ 1 ≤ (s.size : Int) ∧ (s.size : Int) ≤ 8
theorem s_impl_NameOk {h : AH} {s : ByteArray} (hs : s.size ≤ maxLen) : RCalls Try.prog n_impl_NameOk [.str s] h (.bool (bp (nameOk s))) := by
  refine reader (c_impl_NameOk _) (by simp only [old]) ?_
  unfold p_impl_NameOk
  have hs : s.size ≤ 9223372036854775807 := hs
  have hl := bys_len s
  refine aw_upto s.size (fun i vs h1 => vs = [.int .i64 (i : Int)] ∧ i ≤ s.size ∧ h1 = h ∧ Upto (bys s) (fun _ => nameC) i) ⟨rfl, Nat.zero_le _, rfl, up0⟩ ?_
  rintro i vs h1 _ ⟨rfl, hi, rfl, hu⟩
  simp only [g0]
  (repeat' first|refine vs ?_|(refine br ?_ ?_<;>intro _<;>try(exfalso;first|omega|contradiction))|((with_reducible refine g_callf n_impl_within ?_);refine aw_rcall s_impl_within ?_)|((with_reducible refine g_idx ?_);((first|refine ix ?_|refine ixi ?_|(refine ixg ?_;intro _ _)|(refine ixgi ?_;intro _ _));first|rintro _ _ _ _ _ ⟨rfl,rfl⟩ _|rintro _ _ _ _ _ ⟨_,rfl,_⟩ _|rintro _ _ _ _ _ ⟨_,_,_,_,rfl,rfl,_,_⟩ _|intro _ _ _ _ _ _ _))|(refine sx ?_;intro _ _)|((with_reducible refine g_awp ?_);simp only [g0,g1,g2]))
  · exact pf fun k => upNot (by assumption) (by unfold nameC; omega) k.1
  · exact pf fun k => upNot (by assumption) (by unfold nameC; omega) k.1
  · exact ⟨by omega, rfl, by omega, rfl, upS hu (by assumption) (by unfold nameC; omega)⟩
  · have e : i = (bys s).length := by omega
    rw [e] at hu
    exact pb (bp_eq (by simp only [inB, decide_eq_true_eq, nameOk]; exact ⟨fun k => ⟨upAll hu, k⟩, fun k => k.2⟩))
theorem s_spec_NameOk {h : AH} {s : ByteArray} (hs : s.size ≤ maxLen) : RCalls Try.prog n_spec_NameOk [.str s] h (.bool (bp (nameOk s))) := by
  refine reader (c_spec_NameOk _) (by simp only [old]) ?_
  unfold p_spec_NameOk
  have hs : s.size ≤ 9223372036854775807 := hs
  have hl := bys_len s
  refine aw_upto s.size (fun i vs h1 => vs = [.int .i64 (i : Int)] ∧ i ≤ s.size ∧ h1 = h ∧ Upto (bys s) (fun _ => nameC) i) ⟨rfl, Nat.zero_le _, rfl, up0⟩ ?_
  rintro i vs h1 _ ⟨rfl, hi, rfl, hu⟩
  simp only [g0]
  (repeat' first|refine vs ?_|(refine br ?_ ?_<;>intro _<;>try(exfalso;first|omega|contradiction))|((with_reducible refine g_callf n_spec_l1In ?_);refine aw_rcall s_spec_l1In ?_)|((with_reducible refine g_idx ?_);((first|refine ix ?_|refine ixi ?_|(refine ixg ?_;intro _ _)|(refine ixgi ?_;intro _ _));first|rintro _ _ _ _ _ ⟨rfl,rfl⟩ _|rintro _ _ _ _ _ ⟨_,rfl,_⟩ _|rintro _ _ _ _ _ ⟨_,_,_,_,rfl,rfl,_,_⟩ _|intro _ _ _ _ _ _ _))|(refine sx ?_;intro _ _)|((with_reducible refine g_awp ?_);simp only [g0,g1,g2]))
  · exact pf fun k => upNot (by assumption) (by unfold nameC; omega) k.1
  · exact pf fun k => upNot (by assumption) (by unfold nameC; omega) k.1
  · exact ⟨by omega, rfl, by omega, rfl, upS hu (by assumption) (by unfold nameC; omega)⟩
  · have e : i = (bys s).length := by omega
    rw [e] at hu
    exact pb (bp_eq (by simp only [inB, decide_eq_true_eq, nameOk]; exact ⟨fun k => ⟨upAll hu, k⟩, fun k => k.2⟩))

def plainC (c : UInt8) : Prop := 32 ≤ (c.toNat : Int) ∧ (c.toNat : Int) ≤ 126 ∧ (c.toNat : Int) ≠ 34
def plainOk (s : ByteArray) : Prop := (∀ c ∈ bys s, plainC c) ∧ (s.size : Int) ≤ 20
theorem s_impl_PlainOk {h : AH} {s : ByteArray} (hs : s.size ≤ maxLen) : RCalls Try.prog n_impl_PlainOk [.str s] h (.bool (bp (plainOk s))) := by
  refine reader (c_impl_PlainOk _) (by simp only [old]) ?_
  unfold p_impl_PlainOk
  have hs : s.size ≤ 9223372036854775807 := hs
  have hl := bys_len s
  refine aw_upto s.size (fun i vs h1 => vs = [.int .i64 (i : Int)] ∧ i ≤ s.size ∧ h1 = h ∧ Upto (bys s) (fun _ => plainC) i) ⟨rfl, Nat.zero_le _, rfl, up0⟩ ?_
  rintro i vs h1 _ ⟨rfl, hi, rfl, hu⟩
  simp only [g0]
  (repeat' first|refine vs ?_|(refine br ?_ ?_<;>intro _<;>try(exfalso;first|omega|contradiction))|((with_reducible refine g_callf n_impl_within ?_);(refine aw_rcall_b s_impl_within ?_ ?_ <;> intro hb <;> first | replace hb := inB_t hb | replace hb := inB_f hb))|((with_reducible refine g_idx ?_);((first|refine ix ?_|refine ixi ?_|(refine ixg ?_;intro _ _)|(refine ixgi ?_;intro _ _));first|rintro _ _ _ _ _ ⟨rfl,rfl⟩ _|rintro _ _ _ _ _ ⟨_,rfl,_⟩ _|rintro _ _ _ _ _ ⟨_,_,_,_,rfl,rfl,_,_⟩ _|intro _ _ _ _ _ _ _))|(refine sx ?_;intro _ _)|((with_reducible refine g_awp ?_);simp only [g0,g1,g2]))
  all_goals first
    | exact pf fun k => upNot (by assumption) (by unfold plainC; omega) k.1
    | exact ⟨by omega, rfl, by omega, rfl, upS hu (by assumption) (by unfold plainC; omega)⟩
    | (have e : i = (bys s).length := by omega
       rw [e] at hu
       first | exact pt ⟨upAll hu, by omega⟩ | exact pf fun k => by have := k.2; omega)
theorem s_spec_PlainOk {h : AH} {s : ByteArray} (hs : s.size ≤ maxLen) : RCalls Try.prog n_spec_PlainOk [.str s] h (.bool (bp (plainOk s))) := by
  refine reader (c_spec_PlainOk _) (by simp only [old]) ?_
  unfold p_spec_PlainOk
  have hs : s.size ≤ 9223372036854775807 := hs
  have hl := bys_len s
  refine aw_upto s.size (fun i vs h1 => vs = [.int .i64 (i : Int)] ∧ i ≤ s.size ∧ h1 = h ∧ Upto (bys s) (fun _ => plainC) i) ⟨rfl, Nat.zero_le _, rfl, up0⟩ ?_
  rintro i vs h1 _ ⟨rfl, hi, rfl, hu⟩
  simp only [g0]
  (repeat' first|refine vs ?_|(refine br ?_ ?_<;>intro _<;>try(exfalso;first|omega|contradiction))|((with_reducible refine g_idx ?_);((first|refine ix ?_|refine ixi ?_|(refine ixg ?_;intro _ _)|(refine ixgi ?_;intro _ _));first|rintro _ _ _ _ _ ⟨rfl,rfl⟩ _|rintro _ _ _ _ _ ⟨_,rfl,_⟩ _|rintro _ _ _ _ _ ⟨_,_,_,_,rfl,rfl,_,_⟩ _|intro _ _ _ _ _ _ _))|(refine sx ?_;intro _ _)|((with_reducible refine g_awp ?_);simp only [g0,g1,g2]))
  all_goals first
    | exact pf fun k => upNot (by assumption) (by unfold plainC; omega) k.1
    | exact ⟨by omega, rfl, by omega, rfl, upS hu (by assumption) (by unfold plainC; omega)⟩
    | (have e : i = (bys s).length := by omega
       rw [e] at hu
       first | exact pt ⟨upAll hu, by omega⟩ | exact pf fun k => by have := k.2; omega)

def empty : ByteArray := ⟨#[]⟩
def attrOk (a : Attr) : Prop := nameOk a.key ∧ ((a.num = true ∧ (0 ≤ a.n ∧ a.n ≤ 2147483647) ∧ a.text = empty) ∨ (a.num = false ∧ a.n = 0 ∧ plainOk a.text))
def attrSize (a : Attr) : Int := if a.num = true then a.key.size + 4 else a.key.size + a.text.size
end Go.Proofs.Ytideefohbkhhhaa
