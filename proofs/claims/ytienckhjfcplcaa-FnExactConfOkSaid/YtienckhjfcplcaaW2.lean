
/- Names, plain strings, attributes. -/
import Derived.Test.YtienckhjfcplcaaW1
set_option linter.unusedSimpArgs false
set_option linter.unusedVariables false
namespace Go.Proofs.Ytienckhjfcplcaa
open Go Go.Ab
section
/- impl.NameOk -/
def p_impl_NameOk (x0 : AV) : Prog := .loop [AV.int .i64 0] (fun vs => .op (.len 1 x0) fun v => .op (.bin 0 .lss (g vs 0) v) fun v => .ite v (.op (.sidx x0 (g vs 0)) fun v => .op (.bin 0 .lss v (AV.int .u8 97)) fun v => .gop v false (.mv x0) fun v_1 => .gop v false (.mv (g vs 0)) fun v_2 => .gop v false (.sidx v_1 v_2) fun v_3 => .gop v false (.bin 0 .gtr v_3 (AV.int .u8 122)) fun v_4 => .op (.pick v (AV.bool true) v_4) fun v => .ite v (.fin [.val (AV.bool false)]) (.op (.bin 0 .add (g vs 0) (AV.int .i64 1)) fun v => .leaf 0 [v])) (.leaf 2 [g vs 0])) fun t vs => tsel t 1 (.leaf 1 vs) (tsel t 2 (.op (.len 1 x0) fun v => .op (.call n_impl_within [v, AV.int .i64 1, AV.int .i64 8]) fun v => .fin [.val v]) .bad)
theorem c_impl_NameOk (x0 : AV) {h : AH} {R : AV → AH → Prop} (g : (p_impl_NameOk x0).awp Try.prog h fun t vs h' => t = 1 ∧ ∃ v, vs = [v] ∧ R v h') : ACalls Try.prog n_impl_NameOk [x0] h R :=
  acalls_of follows Try.func159 (by kernel_rfl) (by kernel_rfl) [0, 3] (fun _ => []) (show trF Try.prog Try.f159 _ _ [x0] = p_impl_NameOk x0 by kernel_rfl) g
/- spec.NameOk -/
def p_spec_NameOk (x0 : AV) : Prog := .loop [AV.int .i64 0] (fun vs => .op (.len 1 x0) fun v => .op (.bin 0 .lss (g vs 0) v) fun v => .ite v (.op (.sidx x0 (g vs 0)) fun v => .op (.bin 0 .lss v (AV.int .u8 97)) fun v => .gop v false (.mv x0) fun v_1 => .gop v false (.mv (g vs 0)) fun v_2 => .gop v false (.sidx v_1 v_2) fun v_3 => .gop v false (.bin 0 .gtr v_3 (AV.int .u8 122)) fun v_4 => .op (.pick v (AV.bool true) v_4) fun v => .ite v (.fin [.val (AV.bool false)]) (.op (.bin 0 .add (g vs 0) (AV.int .i64 1)) fun v => .leaf 0 [v])) (.leaf 2 [g vs 0])) fun t vs => tsel t 1 (.leaf 1 vs) (tsel t 2 (.op (.len 1 x0) fun v => .op (.call n_spec_l1In [v, AV.int .i64 1, AV.int .i64 8]) fun v => .fin [.val v]) .bad)
theorem c_spec_NameOk (x0 : AV) {h : AH} {R : AV → AH → Prop} (g : (p_spec_NameOk x0).awp Try.prog h fun t vs h' => t = 1 ∧ ∃ v, vs = [v] ∧ R v h') : ACalls Try.prog n_spec_NameOk [x0] h R :=
  acalls_of follows Try.func157 (by kernel_rfl) (by kernel_rfl) [0, 3] (fun _ => []) (show trF Try.prog Try.f157 _ _ [x0] = p_spec_NameOk x0 by kernel_rfl) g
/- impl.PlainOk -/
def p_impl_PlainOk (x0 : AV) : Prog := .loop [AV.int .i64 0] (fun vs => .op (.len 1 x0) fun v => .op (.bin 0 .lss (g vs 0) v) fun v => .ite v (.op (.sidx x0 (g vs 0)) fun v => .op (.conv .i64 v) fun v => .op (.call n_impl_within [v, AV.int .i64 32, AV.int .i64 126]) fun v => .op (.una .not v) fun v => .gop v false (.mv x0) fun v_1 => .gop v false (.mv (g vs 0)) fun v_2 => .gop v false (.sidx v_1 v_2) fun v_3 => .gop v false (.bin 0 .eql v_3 (AV.int .u8 34)) fun v_4 => .op (.pick v (AV.bool true) v_4) fun v => .ite v (.fin [.val (AV.bool false)]) (.op (.bin 0 .add (g vs 0) (AV.int .i64 1)) fun v => .leaf 0 [v])) (.leaf 2 [g vs 0])) fun t vs => tsel t 1 (.leaf 1 vs) (tsel t 2 (.op (.len 1 x0) fun v => .op (.bin 0 .leq v (AV.int .i64 20)) fun v => .fin [.val v]) .bad)
theorem c_impl_PlainOk (x0 : AV) {h : AH} {R : AV → AH → Prop} (g : (p_impl_PlainOk x0).awp Try.prog h fun t vs h' => t = 1 ∧ ∃ v, vs = [v] ∧ R v h') : ACalls Try.prog n_impl_PlainOk [x0] h R :=
  acalls_of follows Try.func160 (by kernel_rfl) (by kernel_rfl) [0, 3] (fun _ => []) (show trF Try.prog Try.f160 _ _ [x0] = p_impl_PlainOk x0 by kernel_rfl) g
/- spec.PlainOk -/
def p_spec_PlainOk (x0 : AV) : Prog := .loop [AV.int .i64 0] (fun vs => .op (.len 1 x0) fun v => .op (.bin 0 .lss (g vs 0) v) fun v => .ite v (.op (.sidx x0 (g vs 0)) fun v => .op (.bin 0 .lss v (AV.int .u8 32)) fun v => .gop v false (.mv x0) fun v_1 => .gop v false (.mv (g vs 0)) fun v_2 => .gop v false (.sidx v_1 v_2) fun v_3 => .gop v false (.bin 0 .gtr v_3 (AV.int .u8 126)) fun v_4 => .op (.pick v (AV.bool true) v_4) fun v => .gop v false (.mv x0) fun v_5 => .gop v false (.mv (g vs 0)) fun v_6 => .gop v false (.sidx v_5 v_6) fun v_7 => .gop v false (.bin 0 .eql v_7 (AV.int .u8 34)) fun v_8 => .op (.pick v (AV.bool true) v_8) fun v => .ite v (.fin [.val (AV.bool false)]) (.op (.bin 0 .add (g vs 0) (AV.int .i64 1)) fun v => .leaf 0 [v])) (.leaf 2 [g vs 0])) fun t vs => tsel t 1 (.leaf 1 vs) (tsel t 2 (.op (.len 1 x0) fun v => .op (.bin 0 .leq v (AV.int .i64 20)) fun v => .fin [.val v]) .bad)
theorem c_spec_PlainOk (x0 : AV) {h : AH} {R : AV → AH → Prop} (g : (p_spec_PlainOk x0).awp Try.prog h fun t vs h' => t = 1 ∧ ∃ v, vs = [v] ∧ R v h') : ACalls Try.prog n_spec_PlainOk [x0] h R :=
  acalls_of follows Try.func158 (by kernel_rfl) (by kernel_rfl) [0, 3] (fun _ => []) (show trF Try.prog Try.f158 _ _ [x0] = p_spec_PlainOk x0 by kernel_rfl) g
/- impl.AttrOk -/
def p_impl_AttrOk (x0 : AV) : Prog := .op (.box x0) fun v => .op (.fad 1 v) fun v_1 => .op (.ld1 v_1) fun v_2 => .ite v_2 (.op (.fad 0 v) fun v_3 => .op (.ld1 v_3) fun v_4 => .op (.call n_impl_NameOk [v_4]) fun v_5 => .gop v_5 true (.fad 2 v) fun v_6 => .gop v_5 true (.ld1 v_6) fun v_7 => .gop v_5 true (.call n_impl_within [v_7, AV.int .i64 0, AV.int .i64 2147483647]) fun v_8 => .op (.pick v_5 v_8 (AV.bool false)) fun v_9 => .gop v_9 true (.fad 3 v) fun v => .gop v_9 true (.ld1 v) fun v => .gop v_9 true (.bin 1 .eql v (AV.str ⟨#[]⟩)) fun v => .op (.pick v_9 v (AV.bool false)) fun v => .fin [.val v]) (.op (.fad 0 v) fun v_3 => .op (.ld1 v_3) fun v_4 => .op (.call n_impl_NameOk [v_4]) fun v_5 => .gop v_5 true (.fad 3 v) fun v_6 => .gop v_5 true (.ld1 v_6) fun v_7 => .gop v_5 true (.call n_impl_PlainOk [v_7]) fun v_8 => .op (.pick v_5 v_8 (AV.bool false)) fun v_9 => .gop v_9 true (.fad 2 v) fun v => .gop v_9 true (.ld1 v) fun v => .gop v_9 true (.bin 0 .eql v (AV.int .i64 0)) fun v => .op (.pick v_9 v (AV.bool false)) fun v => .fin [.val v])
theorem c_impl_AttrOk (x0 : AV) {h : AH} {R : AV → AH → Prop} (g : (p_impl_AttrOk x0).awp Try.prog h fun t vs h' => t = 1 ∧ ∃ v, vs = [v] ∧ R v h') : ACalls Try.prog n_impl_AttrOk [x0] h R :=
  acalls_of follows Try.func155 (by kernel_rfl) (by kernel_rfl) [] (fun _ => []) (show trF Try.prog Try.f155 _ _ [x0] = p_impl_AttrOk x0 by kernel_rfl) g
/- spec.AttrOk -/
def p_spec_AttrOk (x0 : AV) : Prog := .op (.box x0) fun v => .op (.fad 0 v) fun v_1 => .op (.ld1 v_1) fun v_2 => .op (.call n_spec_NameOk [v_2]) fun v_3 => .op (.una .not v_3) fun v_4 => .ite v_4 (.fin [.val (AV.bool false)]) (.op (.fad 1 v) fun v_5 => .op (.ld1 v_5) fun v_6 => .ite v_6 (.op (.fad 2 v) fun v_7 => .op (.ld1 v_7) fun v_8 => .op (.call n_spec_l1In [v_8, AV.int .i64 0, AV.int .i64 2147483647]) fun v_9 => .gop v_9 true (.fad 3 v) fun v => .gop v_9 true (.ld1 v) fun v => .gop v_9 true (.bin 1 .eql v (AV.str ⟨#[]⟩)) fun v => .op (.pick v_9 v (AV.bool false)) fun v => .fin [.val v]) (.op (.fad 2 v) fun v_7 => .op (.ld1 v_7) fun v_8 => .op (.bin 0 .eql v_8 (AV.int .i64 0)) fun v_9 => .gop v_9 true (.fad 3 v) fun v => .gop v_9 true (.ld1 v) fun v => .gop v_9 true (.call n_spec_PlainOk [v]) fun v => .op (.pick v_9 v (AV.bool false)) fun v => .fin [.val v]))
theorem c_spec_AttrOk (x0 : AV) {h : AH} {R : AV → AH → Prop} (g : (p_spec_AttrOk x0).awp Try.prog h fun t vs h' => t = 1 ∧ ∃ v, vs = [v] ∧ R v h') : ACalls Try.prog n_spec_AttrOk [x0] h R :=
  acalls_of follows Try.func154 (by kernel_rfl) (by kernel_rfl) [] (fun _ => []) (show trF Try.prog Try.f154 _ _ [x0] = p_spec_AttrOk x0 by kernel_rfl) g
/- impl.AttrSize -/
def p_impl_AttrSize (x0 : AV) : Prog := .op (.box x0) fun v => .op (.fad 1 v) fun v_1 => .op (.ld1 v_1) fun v_2 => .ite v_2 (.op (.fad 0 v) fun v => .op (.ld1 v) fun v => .op (.len 1 v) fun v => .op (.bin 0 .add v (AV.int .i64 4)) fun v => .fin [.val v]) (.op (.fad 0 v) fun v_3 => .op (.ld1 v_3) fun v_4 => .op (.len 1 v_4) fun v_5 => .op (.fad 3 v) fun v => .op (.ld1 v) fun v => .op (.len 1 v) fun v => .op (.bin 0 .add v_5 v) fun v => .fin [.val v])
theorem c_impl_AttrSize (x0 : AV) {h : AH} {R : AV → AH → Prop} (g : (p_impl_AttrSize x0).awp Try.prog h fun t vs h' => t = 1 ∧ ∃ v, vs = [v] ∧ R v h') : ACalls Try.prog n_impl_AttrSize [x0] h R :=
  acalls_of follows Try.func137 (by kernel_rfl) (by kernel_rfl) [] (fun _ => []) (show trF Try.prog Try.f137 _ _ [x0] = p_impl_AttrSize x0 by kernel_rfl) g
/- spec.AttrSize -/
def p_spec_AttrSize (x0 : AV) : Prog := .op (.box x0) fun v => .op (.fad 1 v) fun v_1 => .op (.ld1 v_1) fun v_2 => .ite v_2 (.op (.fad 0 v) fun v => .op (.ld1 v) fun v => .op (.len 1 v) fun v => .op (.bin 0 .add v (AV.int .i64 4)) fun v => .fin [.val v]) (.op (.fad 0 v) fun v_3 => .op (.ld1 v_3) fun v_4 => .op (.len 1 v_4) fun v_5 => .op (.fad 3 v) fun v => .op (.ld1 v) fun v => .op (.len 1 v) fun v => .op (.bin 0 .add v_5 v) fun v => .fin [.val v])
theorem c_spec_AttrSize (x0 : AV) {h : AH} {R : AV → AH → Prop} (g : (p_spec_AttrSize x0).awp Try.prog h fun t vs h' => t = 1 ∧ ∃ v, vs = [v] ∧ R v h') : ACalls Try.prog n_spec_AttrSize [x0] h R :=
  acalls_of follows Try.func135 (by kernel_rfl) (by kernel_rfl) [] (fun _ => []) (show trF Try.prog Try.f135 _ _ [x0] = p_spec_AttrSize x0 by kernel_rfl) g
end
def nameC (c : UInt8) : Prop := 97 ≤ (c.toNat : Int) ∧ (c.toNat : Int) ≤ 122
def nameOk (s : ByteArray) : Prop := (∀ c ∈ bys s, nameC c) ∧ 1 ≤ (s.size : Int) ∧ (s.size : Int) ≤ 8
theorem s_impl_NameOk {h : AH} {s : ByteArray} (hs : s.size ≤ maxLen) : RCalls Try.prog n_impl_NameOk [.str s] h (.bool (bp (nameOk s))) := by
  refine reader (c_impl_NameOk _) (by simp only [old]) ?_
  unfold p_impl_NameOk
  have hs : s.size ≤ 9223372036854775807 := hs
  have hl := bys_len s
  refine aw_upto s.size (fun i vs h1 => vs = [.int .i64 (i : Int)] ∧ i ≤ s.size ∧ h1 = h ∧ Upto (bys s) (fun _ => nameC) i) ⟨rfl, Nat.zero_le _, rfl, up0⟩ ?_
  rintro i vs h1 _ ⟨rfl, hi, rfl, hu⟩
  simp only [g0]
  (repeat' first|refine vs ?_|(refine br ?_ ?_<;>intro _<;>try(exfalso;first|omega|contradiction))|((with_reducible refine g_callf n_impl_within ?_);refine aw_rcall s_impl_within ?_)|((with_reducible refine g_idx ?_);((first|refine ix ?_|refine ixi ?_|(refine ixg ?_;intro _ _)|(refine ixgi ?_;intro _ _));first|rintro _ _ _ _ _ ⟨rfl,rfl⟩ _|rintro _ _ _ _ _ ⟨_,rfl,_⟩ _|rintro _ _ _ _ _ ⟨_,_,_,_,rfl,rfl,_,_⟩ _|intro _ _ _ _ _ _ _))|(refine sx ?_;intro _ _)|((with_reducible refine g_awp ?_);simp only [g0,g1,g2]))
  · exact pf fun k => upNot (by assumption) (by unfold nameC; omega) k.1
  · exact pf fun k => upNot (by assumption) (by unfold nameC; omega) k.1
  · exact ⟨by omega, rfl, by omega, rfl, upS hu (by assumption) (by unfold nameC; omega)⟩
  · have e : i = (bys s).length := by omega
    rw [e] at hu
    exact pb (bp_eq (by simp only [inB, decide_eq_true_eq, nameOk]; exact ⟨fun k => ⟨upAll hu, k⟩, fun k => k.2⟩))
theorem s_spec_NameOk {h : AH} {s : ByteArray} (hs : s.size ≤ maxLen) : RCalls Try.prog n_spec_NameOk [.str s] h (.bool (bp (nameOk s))) := by
  refine reader (c_spec_NameOk _) (by simp only [old]) ?_
  unfold p_spec_NameOk
  have hs : s.size ≤ 9223372036854775807 := hs
  have hl := bys_len s
  refine aw_upto s.size (fun i vs h1 => vs = [.int .i64 (i : Int)] ∧ i ≤ s.size ∧ h1 = h ∧ Upto (bys s) (fun _ => nameC) i) ⟨rfl, Nat.zero_le _, rfl, up0⟩ ?_
  rintro i vs h1 _ ⟨rfl, hi, rfl, hu⟩
  simp only [g0]
  (repeat' first|refine vs ?_|(refine br ?_ ?_<;>intro _<;>try(exfalso;first|omega|contradiction))|((with_reducible refine g_callf n_spec_l1In ?_);refine aw_rcall s_spec_l1In ?_)|((with_reducible refine g_idx ?_);((first|refine ix ?_|refine ixi ?_|(refine ixg ?_;intro _ _)|(refine ixgi ?_;intro _ _));first|rintro _ _ _ _ _ ⟨rfl,rfl⟩ _|rintro _ _ _ _ _ ⟨_,rfl,_⟩ _|rintro _ _ _ _ _ ⟨_,_,_,_,rfl,rfl,_,_⟩ _|intro _ _ _ _ _ _ _))|(refine sx ?_;intro _ _)|((with_reducible refine g_awp ?_);simp only [g0,g1,g2]))
  · exact pf fun k => upNot (by assumption) (by unfold nameC; omega) k.1
  · exact pf fun k => upNot (by assumption) (by unfold nameC; omega) k.1
  · exact ⟨by omega, rfl, by omega, rfl, upS hu (by assumption) (by unfold nameC; omega)⟩
  · have e : i = (bys s).length := by omega
    rw [e] at hu
    exact pb (bp_eq (by simp only [inB, decide_eq_true_eq, nameOk]; exact ⟨fun k => ⟨upAll hu, k⟩, fun k => k.2⟩))

def plainC (c : UInt8) : Prop := 32 ≤ (c.toNat : Int) ∧ (c.toNat : Int) ≤ 126 ∧ (c.toNat : Int) ≠ 34
def plainOk (s : ByteArray) : Prop := (∀ c ∈ bys s, plainC c) ∧ (s.size : Int) ≤ 20
theorem s_impl_PlainOk {h : AH} {s : ByteArray} (hs : s.size ≤ maxLen) : RCalls Try.prog n_impl_PlainOk [.str s] h (.bool (bp (plainOk s))) := by
  refine reader (c_impl_PlainOk _) (by simp only [old]) ?_
  unfold p_impl_PlainOk
  have hs : s.size ≤ 9223372036854775807 := hs
  have hl := bys_len s
  refine aw_upto s.size (fun i vs h1 => vs = [.int .i64 (i : Int)] ∧ i ≤ s.size ∧ h1 = h ∧ Upto (bys s) (fun _ => plainC) i) ⟨rfl, Nat.zero_le _, rfl, up0⟩ ?_
  rintro i vs h1 _ ⟨rfl, hi, rfl, hu⟩
  simp only [g0]
  (repeat' first|refine vs ?_|(refine br ?_ ?_<;>intro _<;>try(exfalso;first|omega|contradiction))|((with_reducible refine g_callf n_impl_within ?_);(refine aw_rcall_b s_impl_within ?_ ?_ <;> intro hb <;> first | replace hb := inB_t hb | replace hb := inB_f hb))|((with_reducible refine g_idx ?_);((first|refine ix ?_|refine ixi ?_|(refine ixg ?_;intro _ _)|(refine ixgi ?_;intro _ _));first|rintro _ _ _ _ _ ⟨rfl,rfl⟩ _|rintro _ _ _ _ _ ⟨_,rfl,_⟩ _|rintro _ _ _ _ _ ⟨_,_,_,_,rfl,rfl,_,_⟩ _|intro _ _ _ _ _ _ _))|(refine sx ?_;intro _ _)|((with_reducible refine g_awp ?_);simp only [g0,g1,g2]))
  all_goals first
    | exact pf fun k => upNot (by assumption) (by unfold plainC; omega) k.1
    | exact ⟨by omega, rfl, by omega, rfl, upS hu (by assumption) (by unfold plainC; omega)⟩
    | (have e : i = (bys s).length := by omega
       rw [e] at hu
       first | exact pt ⟨upAll hu, by omega⟩ | exact pf fun k => by have := k.2; omega)
theorem s_spec_PlainOk {h : AH} {s : ByteArray} (hs : s.size ≤ maxLen) : RCalls Try.prog n_spec_PlainOk [.str s] h (.bool (bp (plainOk s))) := by
  refine reader (c_spec_PlainOk _) (by simp only [old]) ?_
  unfold p_spec_PlainOk
  have hs : s.size ≤ 9223372036854775807 := hs
  have hl := bys_len s
  refine aw_upto s.size (fun i vs h1 => vs = [.int .i64 (i : Int)] ∧ i ≤ s.size ∧ h1 = h ∧ Upto (bys s) (fun _ => plainC) i) ⟨rfl, Nat.zero_le _, rfl, up0⟩ ?_
  rintro i vs h1 _ ⟨rfl, hi, rfl, hu⟩
  simp only [g0]
  (repeat' first|refine vs ?_|(refine br ?_ ?_<;>intro _<;>try(exfalso;first|omega|contradiction))|((with_reducible refine g_idx ?_);((first|refine ix ?_|refine ixi ?_|(refine ixg ?_;intro _ _)|(refine ixgi ?_;intro _ _));first|rintro _ _ _ _ _ ⟨rfl,rfl⟩ _|rintro _ _ _ _ _ ⟨_,rfl,_⟩ _|rintro _ _ _ _ _ ⟨_,_,_,_,rfl,rfl,_,_⟩ _|intro _ _ _ _ _ _ _))|(refine sx ?_;intro _ _)|((with_reducible refine g_awp ?_);simp only [g0,g1,g2]))
  all_goals first
    | exact pf fun k => upNot (by assumption) (by unfold plainC; omega) k.1
    | exact ⟨by omega, rfl, by omega, rfl, upS hu (by assumption) (by unfold plainC; omega)⟩
    | (have e : i = (bys s).length := by omega
       rw [e] at hu
       first | exact pt ⟨upAll hu, by omega⟩ | exact pf fun k => by have := k.2; omega)

def empty : ByteArray := ⟨#[]⟩
def attrOk (a : Attr) : Prop := nameOk a.key ∧ ((a.num = true ∧ (0 ≤ a.n ∧ a.n ≤ 2147483647) ∧ a.text = empty) ∨ (a.num = false ∧ a.n = 0 ∧ plainOk a.text))
theorem s_impl_AttrOk {h : AH} {a : Attr} (ok : Cel.ok a) : RCalls Try.prog n_impl_AttrOk [.agg a.cs] h (.bool (bp (attrOk a))) := by
  refine reader (c_impl_AttrOk _) (by simp only [old]) ?_
  unfold p_impl_AttrOk
  obtain ⟨k1, k2, k3⟩ := ok
  have k1 : a.key.size ≤ maxLen := k1
  have k3 : a.text.size ≤ maxLen := k3
  (repeat' first|refine vs ?_|(refine br ?_ ?_<;>intro _<;>try(exfalso;first|omega|contradiction))|((with_reducible refine g_callf n_impl_NameOk ?_);(refine aw_rcall_b (s_impl_NameOk k1) ?_ ?_ <;> intro hn <;> first | replace hn := bp_true hn | replace hn := bp_false hn))|((with_reducible refine g_callf n_impl_PlainOk ?_);(refine aw_rcall_b (s_impl_PlainOk k3) ?_ ?_ <;> intro hp <;> first | replace hp := bp_true hp | replace hp := bp_false hp))|((with_reducible refine g_callf n_impl_within ?_);(refine aw_rcall_b s_impl_within ?_ ?_ <;> intro hb <;> first | replace hb := inB_t hb | replace hb := inB_f hb))|((with_reducible refine g_idx ?_);((first|refine ix ?_|refine ixi ?_|(refine ixg ?_;intro _ _)|(refine ixgi ?_;intro _ _));first|rintro _ _ _ _ _ ⟨rfl,rfl⟩ _|rintro _ _ _ _ _ ⟨_,rfl,_⟩ _|rintro _ _ _ _ _ ⟨_,_,_,_,rfl,rfl,_,_⟩ _|intro _ _ _ _ _ _ _))|(refine sx ?_;intro _ _)|((with_reducible refine g_awp ?_);simp only [g0,g1,g2]))
  all_goals first
    | (refine pt ?_; unfold attrOk; simp_all [empty]; done)
    | (refine pf ?_; unfold attrOk; simp_all [empty]; done)
    | (refine pf ?_; unfold attrOk; simp_all [empty]; intros; omega)
theorem s_spec_AttrOk {h : AH} {a : Attr} (ok : Cel.ok a) : RCalls Try.prog n_spec_AttrOk [.agg a.cs] h (.bool (bp (attrOk a))) := by
  refine reader (c_spec_AttrOk _) (by simp only [old]) ?_
  unfold p_spec_AttrOk
  obtain ⟨k1, k2, k3⟩ := ok
  have k1 : a.key.size ≤ maxLen := k1
  have k3 : a.text.size ≤ maxLen := k3
  (repeat' first|refine vs ?_|(refine br ?_ ?_<;>intro _<;>try(exfalso;first|omega|contradiction))|((with_reducible refine g_callf n_spec_NameOk ?_);(refine aw_rcall_b (s_spec_NameOk k1) ?_ ?_ <;> intro hn <;> first | replace hn := bp_true hn | replace hn := bp_false hn))|((with_reducible refine g_callf n_spec_PlainOk ?_);(refine aw_rcall_b (s_spec_PlainOk k3) ?_ ?_ <;> intro hp <;> first | replace hp := bp_true hp | replace hp := bp_false hp))|((with_reducible refine g_callf n_spec_l1In ?_);(refine aw_rcall_b s_spec_l1In ?_ ?_ <;> intro hb <;> first | replace hb := inB_t hb | replace hb := inB_f hb))|((with_reducible refine g_idx ?_);((first|refine ix ?_|refine ixi ?_|(refine ixg ?_;intro _ _)|(refine ixgi ?_;intro _ _));first|rintro _ _ _ _ _ ⟨rfl,rfl⟩ _|rintro _ _ _ _ _ ⟨_,rfl,_⟩ _|rintro _ _ _ _ _ ⟨_,_,_,_,rfl,rfl,_,_⟩ _|intro _ _ _ _ _ _ _))|(refine sx ?_;intro _ _)|((with_reducible refine g_awp ?_);simp only [g0,g1,g2]))
  all_goals first
    | (refine pt ?_; unfold attrOk; simp_all [empty]; done)
    | (refine pf ?_; unfold attrOk; simp_all [empty]; done)
    | (refine pf ?_; unfold attrOk; simp_all [empty]; intros; omega)

def attrSize (a : Attr) : Int := if a.num = true then a.key.size + 4 else a.key.size + a.text.size
theorem s_impl_AttrSize {h : AH} {a : Attr} (hs : Sz.sz a ≤ 1048576) : RCalls Try.prog n_impl_AttrSize [.agg a.cs] h (.int .i64 (attrSize a)) := by
  refine reader (c_impl_AttrSize _) (by simp only [old]) ?_
  unfold p_impl_AttrSize
  have hs : a.key.size + a.text.size ≤ 1048576 := hs
  (repeat' first|refine vs ?_|(refine br ?_ ?_<;>intro _<;>try(exfalso;first|omega|contradiction))|((with_reducible refine g_idx ?_);((first|refine ix ?_|refine ixi ?_|(refine ixg ?_;intro _ _)|(refine ixgi ?_;intro _ _));first|rintro _ _ _ _ _ ⟨rfl,rfl⟩ _|rintro _ _ _ _ _ ⟨_,rfl,_⟩ _|rintro _ _ _ _ _ ⟨_,_,_,_,rfl,rfl,_,_⟩ _|intro _ _ _ _ _ _ _))|(refine sx ?_;intro _ _)|((with_reducible refine g_awp ?_);simp only [g0,g1,g2]))
  all_goals exact pi (by simp [attrSize, *])
theorem s_spec_AttrSize {h : AH} {a : Attr} (hs : Sz.sz a ≤ 1048576) : RCalls Try.prog n_spec_AttrSize [.agg a.cs] h (.int .i64 (attrSize a)) := by
  refine reader (c_spec_AttrSize _) (by simp only [old]) ?_
  unfold p_spec_AttrSize
  have hs : a.key.size + a.text.size ≤ 1048576 := hs
  (repeat' first|refine vs ?_|(refine br ?_ ?_<;>intro _<;>try(exfalso;first|omega|contradiction))|((with_reducible refine g_idx ?_);((first|refine ix ?_|refine ixi ?_|(refine ixg ?_;intro _ _)|(refine ixgi ?_;intro _ _));first|rintro _ _ _ _ _ ⟨rfl,rfl⟩ _|rintro _ _ _ _ _ ⟨_,rfl,_⟩ _|rintro _ _ _ _ _ ⟨_,_,_,_,rfl,rfl,_,_⟩ _|intro _ _ _ _ _ _ _))|(refine sx ?_;intro _ _)|((with_reducible refine g_awp ?_);simp only [g0,g1,g2]))
  all_goals exact pi (by simp [attrSize, *])
end Go.Proofs.Ytienckhjfcplcaa
