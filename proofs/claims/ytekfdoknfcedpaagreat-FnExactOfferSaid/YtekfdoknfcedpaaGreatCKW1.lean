import Derived.Test.YtekfdoknfcedpaaGreatCNm
import Derived.Test.YtekfdoknfcedpaaGreatCK4
section
/- Numbers, names and plain strings. -/
set_option linter.unusedSimpArgs false
set_option linter.unusedVariables false
namespace Go.Proofs.YtekfdoknfcedpaaGreat
open Go Go.Ab
section
/- impl.within -/
def p_impl_within (x0 x1 x2 : AV) : Prog := Bn .geq x0 x1 fun a=>.gop a true (.mv x0) fun b=>.gop a true (.mv x2) fun c=>.gop a true (.bin 0 .leq b c) fun b=>Pk a b (.bool false) fun a=>.fin [.val a]
theorem c_impl_within (x0 x1 x2 : AV) : CC Tryz.prog n_impl_within [x0, x1, x2] (p_impl_within x0 x1 x2) := cc Tryz.func44
/- spec.l1In -/
def p_spec_l1In (x0 x1 x2 : AV) : Prog := Bn .geq x0 x1 fun a=>.gop a true (.mv x0) fun b=>.gop a true (.mv x2) fun c=>.gop a true (.bin 0 .leq b c) fun b=>Pk a b (.bool false) fun a=>.fin [.val a]
theorem c_spec_l1In (x0 x1 x2 : AV) : CC Tryz.prog n_spec_l1In [x0, x1, x2] (p_spec_l1In x0 x1 x2) := cc Tryz.func31
/- impl.Cap -/
/- spec.Cap -/
/- impl.Add -/
/- spec.Add -/
end
def inB (a lo hi : Int) : Bool := decide (lo ≤ a ∧ a ≤ hi)
theorem inB_t {a lo hi : Int} (h : inB a lo hi = true) : lo ≤ a ∧ a ≤ hi := by simpa [inB] using h
theorem inB_f {a lo hi : Int} (h : inB a lo hi = false) : ¬ (lo ≤ a ∧ a ≤ hi) := by simpa [inB] using h
theorem s_spec_l1In {h : AH} {a lo hi : Int} : RCalls Tryz.prog n_spec_l1In [.int .i64 a, .int .i64 lo, .int .i64 hi] h (.bool (inB a lo hi)) := by
  refine reader (c_spec_l1In _ _ _) (by simp only [old]) ?_
  unfold p_spec_l1In
  (repeat' first|refine vs ?_|(refine br ?_ ?_<;>intro _<;>try(exfalso;first|omega|contradiction))|((with_reducible refine g_idx ?_);((first|refine ix ?_|refine ixi ?_|(refine ixg ?_;intro _ _)|(refine ixgi ?_;intro _ _));first|rintro _ _ _ _ _ ⟨rfl,rfl⟩ _|rintro _ _ _ _ _ ⟨_,rfl,_⟩ _|rintro _ _ _ _ _ ⟨_,_,_,_,rfl,rfl,_,_⟩ _|intro _ _ _ _ _ _ _))|(refine sx ?_;intro _ _)|((with_reducible refine g_awp ?_);simp only [g0,g1,g2]))
  all_goals (refine pb ?_; simp [inB]; omega)
theorem s_impl_within {h : AH} {a lo hi : Int} : RCalls Tryz.prog n_impl_within [.int .i64 a, .int .i64 lo, .int .i64 hi] h (.bool (inB a lo hi)) := by
  refine reader (c_impl_within _ _ _) (by simp only [old]) ?_
  unfold p_impl_within
  (repeat' first|refine vs ?_|(refine br ?_ ?_<;>intro _<;>try(exfalso;first|omega|contradiction))|((with_reducible refine g_idx ?_);((first|refine ix ?_|refine ixi ?_|(refine ixg ?_;intro _ _)|(refine ixgi ?_;intro _ _));first|rintro _ _ _ _ _ ⟨rfl,rfl⟩ _|rintro _ _ _ _ _ ⟨_,rfl,_⟩ _|rintro _ _ _ _ _ ⟨_,_,_,_,rfl,rfl,_,_⟩ _|intro _ _ _ _ _ _ _))|(refine sx ?_;intro _ _)|((with_reducible refine g_awp ?_);simp only [g0,g1,g2]))
  all_goals (refine pb ?_; simp [inB]; omega)

def cap (n : Int) : Int := min (max n 0) 2147483647
end Go.Proofs.YtekfdoknfcedpaaGreat
end
section
/- Names, plain strings, attributes. -/
set_option linter.unusedSimpArgs false
set_option linter.unusedVariables false
namespace Go.Proofs.YtekfdoknfcedpaaGreat
open Go Go.Ab
section
/- impl.NameOk -/
def p_impl_NameOk (x0 : AV) : Prog := .loop [.int .i64 0] (fun a=>Ln 1 x0 fun b=>Bn .lss (g a 0) b fun b=>.ite b (.op (.sidx x0 (g a 0)) fun b=>Bn .lss b (.int .u8 97) fun b=>.gop b false (.mv x0) fun c=>.gop b false (.mv (g a 0)) fun d=>.gop b false (.sidx c d) fun c=>.gop b false (.bin 0 .gtr c (.int .u8 122)) fun c=>Pk b (.bool true) c fun b=>.ite b (.fin [.val (.bool false)]) (Bn .add (g a 0) (.int .i64 1) fun a=>.leaf 0 [a])) (.leaf 2 [g a 0])) fun a b=>tsel a 1 (.leaf 1 b) (tsel a 2 (Ln 1 x0 fun a=>Cl n_impl_within [a, .int .i64 1, .int .i64 8] fun a=>.fin [.val a]) .bad)
theorem c_impl_NameOk (x0 : AV) : CC Tryz.prog n_impl_NameOk [x0] (p_impl_NameOk x0) := cc Tryz.func326 [0, 3] (fun _ => [])
/- spec.NameOk -/
def p_spec_NameOk (x0 : AV) : Prog := .loop [.int .i64 0] (fun a=>Ln 1 x0 fun b=>Bn .lss (g a 0) b fun b=>.ite b (.op (.sidx x0 (g a 0)) fun b=>Bn .lss b (.int .u8 97) fun b=>.gop b false (.mv x0) fun c=>.gop b false (.mv (g a 0)) fun d=>.gop b false (.sidx c d) fun c=>.gop b false (.bin 0 .gtr c (.int .u8 122)) fun c=>Pk b (.bool true) c fun b=>.ite b (.fin [.val (.bool false)]) (Bn .add (g a 0) (.int .i64 1) fun a=>.leaf 0 [a])) (.leaf 2 [g a 0])) fun a b=>tsel a 1 (.leaf 1 b) (tsel a 2 (Ln 1 x0 fun a=>Cl n_spec_l1In [a, .int .i64 1, .int .i64 8] fun a=>.fin [.val a]) .bad)
theorem c_spec_NameOk (x0 : AV) : CC Tryz.prog n_spec_NameOk [x0] (p_spec_NameOk x0) := cc Tryz.func328 [0, 3] (fun _ => [])
/- impl.PlainOk -/
def p_impl_PlainOk (x0 : AV) : Prog := .loop [.int .i64 0] (fun a=>Ln 1 x0 fun b=>Bn .lss (g a 0) b fun b=>.ite b (.op (.sidx x0 (g a 0)) fun b=>.op (.conv .i64 b) fun b=>Cl n_impl_within [b, .int .i64 32, .int .i64 126] fun b=>.op (.una .not b) fun b=>.gop b false (.mv x0) fun c=>.gop b false (.mv (g a 0)) fun d=>.gop b false (.sidx c d) fun c=>.gop b false (.bin 0 .eql c (.int .u8 34)) fun c=>Pk b (.bool true) c fun b=>.ite b (.fin [.val (.bool false)]) (Bn .add (g a 0) (.int .i64 1) fun a=>.leaf 0 [a])) (.leaf 2 [g a 0])) fun a b=>tsel a 1 (.leaf 1 b) (tsel a 2 (Ln 1 x0 fun a=>Bn .leq a (.int .i64 20) fun a=>.fin [.val a]) .bad)
theorem c_impl_PlainOk (x0 : AV) : CC Tryz.prog n_impl_PlainOk [x0] (p_impl_PlainOk x0) := cc Tryz.func327 [0, 3] (fun _ => [])
/- spec.PlainOk -/
def p_spec_PlainOk (x0 : AV) : Prog := .loop [.int .i64 0] (fun a=>Ln 1 x0 fun b=>Bn .lss (g a 0) b fun b=>.ite b (.op (.sidx x0 (g a 0)) fun b=>Bn .lss b (.int .u8 32) fun b=>.gop b false (.mv x0) fun c=>.gop b false (.mv (g a 0)) fun d=>.gop b false (.sidx c d) fun c=>.gop b false (.bin 0 .gtr c (.int .u8 126)) fun c=>Pk b (.bool true) c fun b=>.gop b false (.mv x0) fun c=>.gop b false (.mv (g a 0)) fun d=>.gop b false (.sidx c d) fun c=>.gop b false (.bin 0 .eql c (.int .u8 34)) fun c=>Pk b (.bool true) c fun b=>.ite b (.fin [.val (.bool false)]) (Bn .add (g a 0) (.int .i64 1) fun a=>.leaf 0 [a])) (.leaf 2 [g a 0])) fun a b=>tsel a 1 (.leaf 1 b) (tsel a 2 (Ln 1 x0 fun a=>Bn .leq a (.int .i64 20) fun a=>.fin [.val a]) .bad)
theorem c_spec_PlainOk (x0 : AV) : CC Tryz.prog n_spec_PlainOk [x0] (p_spec_PlainOk x0) := cc Tryz.func329 [0, 3] (fun _ => [])
/- impl.AttrOk -/
def p_impl_AttrOk (x0 : AV) : Prog := .op (.box x0) fun a=>Lg 1 a fun b=>.ite b (Lg 0 a fun b=>Cl n_impl_NameOk [b] fun b=>Gf b true 2 a fun c=>.gop b true (.call n_impl_within [c, .int .i64 0, .int .i64 2147483647]) fun c=>Pk b c (.bool false) fun b=>Gf b true 3 a fun a=>.gop b true (.bin 1 .eql a (.str ⟨#[]⟩)) fun a=>Pk b a (.bool false) fun a=>.fin [.val a]) (Lg 0 a fun b=>Cl n_impl_NameOk [b] fun b=>Gf b true 3 a fun c=>.gop b true (.call n_impl_PlainOk [c]) fun c=>Pk b c (.bool false) fun b=>Gf b true 2 a fun a=>.gop b true (.bin 0 .eql a (.int .i64 0)) fun a=>Pk b a (.bool false) fun a=>.fin [.val a])
theorem c_impl_AttrOk (x0 : AV) : CC Tryz.prog n_impl_AttrOk [x0] (p_impl_AttrOk x0) := cc Tryz.func306
/- spec.AttrOk -/
def p_spec_AttrOk (x0 : AV) : Prog := .op (.box x0) fun a=>Lg 0 a fun b=>Cl n_spec_NameOk [b] fun b=>.op (.una .not b) fun b=>.ite b (.fin [.val (.bool false)]) (Lg 1 a fun b=>.ite b (Lg 2 a fun b=>Cl n_spec_l1In [b, .int .i64 0, .int .i64 2147483647] fun b=>Gf b true 3 a fun a=>.gop b true (.bin 1 .eql a (.str ⟨#[]⟩)) fun a=>Pk b a (.bool false) fun a=>.fin [.val a]) (Lg 2 a fun b=>Bn .eql b (.int .i64 0) fun b=>Gf b true 3 a fun a=>.gop b true (.call n_spec_PlainOk [a]) fun a=>Pk b a (.bool false) fun a=>.fin [.val a]))
theorem c_spec_AttrOk (x0 : AV) : CC Tryz.prog n_spec_AttrOk [x0] (p_spec_AttrOk x0) := cc Tryz.func310
/- impl.AttrSize -/
def p_impl_AttrSize (x0 : AV) : Prog := .op (.box x0) fun a=>Lg 1 a fun b=>.ite b (Lg 0 a fun a=>Ln 1 a fun a=>Bn .add a (.int .i64 4) fun a=>.fin [.val a]) (Lg 0 a fun b=>Ln 1 b fun b=>Lg 3 a fun a=>Ln 1 a fun a=>Bn .add b a fun a=>.fin [.val a])
theorem c_impl_AttrSize (x0 : AV) : CC Tryz.prog n_impl_AttrSize [x0] (p_impl_AttrSize x0) := cc Tryz.func239
/- spec.AttrSize -/
def p_spec_AttrSize (x0 : AV) : Prog := .op (.box x0) fun a=>Lg 1 a fun b=>.ite b (Lg 0 a fun a=>Ln 1 a fun a=>Bn .add a (.int .i64 4) fun a=>.fin [.val a]) (Lg 0 a fun b=>Ln 1 b fun b=>Lg 3 a fun a=>Ln 1 a fun a=>Bn .add b a fun a=>.fin [.val a])
theorem c_spec_AttrSize (x0 : AV) : CC Tryz.prog n_spec_AttrSize [x0] (p_spec_AttrSize x0) := cc Tryz.func296
end
def nameC (c : UInt8) : Prop := 97 ≤ (c.toNat : Int) ∧ (c.toNat : Int) ≤ 122
def nameOk (s : ByteArray) : Prop := (∀ c ∈ bys s, nameC c) ∧ 1 ≤ (s.size : Int) ∧ (s.size : Int) ≤ 8
theorem s_impl_NameOk {h : AH} {s : ByteArray} (hs : s.size ≤ maxLen) : RCalls Tryz.prog n_impl_NameOk [.str s] h (.bool (bp (nameOk s))) := by
  refine reader (c_impl_NameOk _) (by simp only [old]) ?_
  unfold p_impl_NameOk
  have hs : s.size ≤ 9223372036854775807 := hs
  have hl := bys_len s
  refine aw_upto s.size (fun i vs h1 => vs = [.int .i64 (i : Int)] ∧ i ≤ s.size ∧ h1 = h ∧ Upto (bys s) (fun _ => nameC) i) ⟨rfl, Nat.zero_le _, rfl, up0⟩ ?_
  rintro i vs h1 _ ⟨rfl, hi, rfl, hu⟩
  simp only [g0]
  (repeat' first|refine vs ?_|(refine br ?_ ?_<;>intro _<;>try(exfalso;first|omega|contradiction))|((with_reducible refine g_callf n_impl_within ?_);refine aw_rcall s_impl_within ?_)|((with_reducible refine g_idx ?_);((first|refine ix ?_|refine ixi ?_|(refine ixg ?_;intro _ _)|(refine ixgi ?_;intro _ _));first|rintro _ _ _ _ _ ⟨rfl,rfl⟩ _|rintro _ _ _ _ _ ⟨_,rfl,_⟩ _|rintro _ _ _ _ _ ⟨_,_,_,_,rfl,rfl,_,_⟩ _|intro _ _ _ _ _ _ _))|(refine sx ?_;intro _ _)|((with_reducible refine g_awp ?_);simp only [g0,g1,g2]))
  · exact pf fun k => upNot (by assumption) (by unfold nameC; omega) k.1
  · exact pf fun k => upNot (by assumption) (by unfold nameC; omega) k.1
  · exact ⟨by omega, rfl, by omega, rfl, upS hu (by assumption) (by unfold nameC; omega)⟩
  · have e : i = (bys s).length := by omega
    rw [e] at hu
    exact pb (bp_eq (by simp only [inB, decide_eq_true_eq, nameOk]; exact ⟨fun k => ⟨upAll hu, k⟩, fun k => k.2⟩))
theorem s_spec_NameOk {h : AH} {s : ByteArray} (hs : s.size ≤ maxLen) : RCalls Tryz.prog n_spec_NameOk [.str s] h (.bool (bp (nameOk s))) := by
  refine reader (c_spec_NameOk _) (by simp only [old]) ?_
  unfold p_spec_NameOk
  have hs : s.size ≤ 9223372036854775807 := hs
  have hl := bys_len s
  refine aw_upto s.size (fun i vs h1 => vs = [.int .i64 (i : Int)] ∧ i ≤ s.size ∧ h1 = h ∧ Upto (bys s) (fun _ => nameC) i) ⟨rfl, Nat.zero_le _, rfl, up0⟩ ?_
  rintro i vs h1 _ ⟨rfl, hi, rfl, hu⟩
  simp only [g0]
  (repeat' first|refine vs ?_|(refine br ?_ ?_<;>intro _<;>try(exfalso;first|omega|contradiction))|((with_reducible refine g_callf n_spec_l1In ?_);refine aw_rcall s_spec_l1In ?_)|((with_reducible refine g_idx ?_);((first|refine ix ?_|refine ixi ?_|(refine ixg ?_;intro _ _)|(refine ixgi ?_;intro _ _));first|rintro _ _ _ _ _ ⟨rfl,rfl⟩ _|rintro _ _ _ _ _ ⟨_,rfl,_⟩ _|rintro _ _ _ _ _ ⟨_,_,_,_,rfl,rfl,_,_⟩ _|intro _ _ _ _ _ _ _))|(refine sx ?_;intro _ _)|((with_reducible refine g_awp ?_);simp only [g0,g1,g2]))
  · exact pf fun k => upNot (by assumption) (by unfold nameC; omega) k.1
  · exact pf fun k => upNot (by assumption) (by unfold nameC; omega) k.1
  · exact ⟨by omega, rfl, by omega, rfl, upS hu (by assumption) (by unfold nameC; omega)⟩
  · have e : i = (bys s).length := by omega
    rw [e] at hu
    exact pb (bp_eq (by simp only [inB, decide_eq_true_eq, nameOk]; exact ⟨fun k => ⟨upAll hu, k⟩, fun k => k.2⟩))

def plainC (c : UInt8) : Prop := 32 ≤ (c.toNat : Int) ∧ (c.toNat : Int) ≤ 126 ∧ (c.toNat : Int) ≠ 34
def plainOk (s : ByteArray) : Prop := (∀ c ∈ bys s, plainC c) ∧ (s.size : Int) ≤ 20
theorem s_impl_PlainOk {h : AH} {s : ByteArray} (hs : s.size ≤ maxLen) : RCalls Tryz.prog n_impl_PlainOk [.str s] h (.bool (bp (plainOk s))) := by
  refine reader (c_impl_PlainOk _) (by simp only [old]) ?_
  unfold p_impl_PlainOk
  have hs : s.size ≤ 9223372036854775807 := hs
  have hl := bys_len s
  refine aw_upto s.size (fun i vs h1 => vs = [.int .i64 (i : Int)] ∧ i ≤ s.size ∧ h1 = h ∧ Upto (bys s) (fun _ => plainC) i) ⟨rfl, Nat.zero_le _, rfl, up0⟩ ?_
  rintro i vs h1 _ ⟨rfl, hi, rfl, hu⟩
  simp only [g0]
  (repeat' first|refine vs ?_|(refine br ?_ ?_<;>intro _<;>try(exfalso;first|omega|contradiction))|((with_reducible refine g_callf n_impl_within ?_);(refine aw_rcall_b s_impl_within ?_ ?_ <;> intro hb <;> first | replace hb := inB_t hb | replace hb := inB_f hb))|((with_reducible refine g_idx ?_);((first|refine ix ?_|refine ixi ?_|(refine ixg ?_;intro _ _)|(refine ixgi ?_;intro _ _));first|rintro _ _ _ _ _ ⟨rfl,rfl⟩ _|rintro _ _ _ _ _ ⟨_,rfl,_⟩ _|rintro _ _ _ _ _ ⟨_,_,_,_,rfl,rfl,_,_⟩ _|intro _ _ _ _ _ _ _))|(refine sx ?_;intro _ _)|((with_reducible refine g_awp ?_);simp only [g0,g1,g2]))
  all_goals first
    | exact pf fun k => upNot (by assumption) (by unfold plainC; omega) k.1
    | exact ⟨by omega, rfl, by omega, rfl, upS hu (by assumption) (by unfold plainC; omega)⟩
    | (have e : i = (bys s).length := by omega
       rw [e] at hu
       first | exact pt ⟨upAll hu, by omega⟩ | exact pf fun k => by have := k.2; omega)
theorem s_spec_PlainOk {h : AH} {s : ByteArray} (hs : s.size ≤ maxLen) : RCalls Tryz.prog n_spec_PlainOk [.str s] h (.bool (bp (plainOk s))) := by
  refine reader (c_spec_PlainOk _) (by simp only [old]) ?_
  unfold p_spec_PlainOk
  have hs : s.size ≤ 9223372036854775807 := hs
  have hl := bys_len s
  refine aw_upto s.size (fun i vs h1 => vs = [.int .i64 (i : Int)] ∧ i ≤ s.size ∧ h1 = h ∧ Upto (bys s) (fun _ => plainC) i) ⟨rfl, Nat.zero_le _, rfl, up0⟩ ?_
  rintro i vs h1 _ ⟨rfl, hi, rfl, hu⟩
  simp only [g0]
  (repeat' first|refine vs ?_|(refine br ?_ ?_<;>intro _<;>try(exfalso;first|omega|contradiction))|((with_reducible refine g_idx ?_);((first|refine ix ?_|refine ixi ?_|(refine ixg ?_;intro _ _)|(refine ixgi ?_;intro _ _));first|rintro _ _ _ _ _ ⟨rfl,rfl⟩ _|rintro _ _ _ _ _ ⟨_,rfl,_⟩ _|rintro _ _ _ _ _ ⟨_,_,_,_,rfl,rfl,_,_⟩ _|intro _ _ _ _ _ _ _))|(refine sx ?_;intro _ _)|((with_reducible refine g_awp ?_);simp only [g0,g1,g2]))
  all_goals first
    | exact pf fun k => upNot (by assumption) (by unfold plainC; omega) k.1
    | exact ⟨by omega, rfl, by omega, rfl, upS hu (by assumption) (by unfold plainC; omega)⟩
    | (have e : i = (bys s).length := by omega
       rw [e] at hu
       first | exact pt ⟨upAll hu, by omega⟩ | exact pf fun k => by have := k.2; omega)

def empty : ByteArray := ⟨#[]⟩
def attrOk (a : Attr) : Prop := nameOk a.key ∧ ((a.num = true ∧ (0 ≤ a.n ∧ a.n ≤ 2147483647) ∧ a.text = empty) ∨ (a.num = false ∧ a.n = 0 ∧ plainOk a.text))
theorem s_impl_AttrOk {h : AH} {a : Attr} (ok : Cel.ok a) : RCalls Tryz.prog n_impl_AttrOk [.agg a.cs] h (.bool (bp (attrOk a))) := by
  refine reader (c_impl_AttrOk _) (by simp only [old]) ?_
  unfold p_impl_AttrOk
  obtain ⟨k1, k2, k3⟩ := ok
  have k1 : a.key.size ≤ maxLen := k1
  have k3 : a.text.size ≤ maxLen := k3
  (repeat' first|refine vs ?_|(refine br ?_ ?_<;>intro _<;>try(exfalso;first|omega|contradiction))|((with_reducible refine g_callf n_impl_NameOk ?_);(refine aw_rcall_b (s_impl_NameOk k1) ?_ ?_ <;> intro hn <;> first | replace hn := bp_true hn | replace hn := bp_false hn))|((with_reducible refine g_callf n_impl_PlainOk ?_);(refine aw_rcall_b (s_impl_PlainOk k3) ?_ ?_ <;> intro hp <;> first | replace hp := bp_true hp | replace hp := bp_false hp))|((with_reducible refine g_callf n_impl_within ?_);(refine aw_rcall_b s_impl_within ?_ ?_ <;> intro hb <;> first | replace hb := inB_t hb | replace hb := inB_f hb))|((with_reducible refine g_idx ?_);((first|refine ix ?_|refine ixi ?_|(refine ixg ?_;intro _ _)|(refine ixgi ?_;intro _ _));first|rintro _ _ _ _ _ ⟨rfl,rfl⟩ _|rintro _ _ _ _ _ ⟨_,rfl,_⟩ _|rintro _ _ _ _ _ ⟨_,_,_,_,rfl,rfl,_,_⟩ _|intro _ _ _ _ _ _ _))|(refine sx ?_;intro _ _)|((with_reducible refine g_awp ?_);simp only [g0,g1,g2]))
  all_goals first
    | (refine pt ?_; unfold attrOk; simp_all [empty]; done)
    | (refine pf ?_; unfold attrOk; simp_all [empty]; done)
    | (refine pf ?_; unfold attrOk; simp_all [empty]; intros; omega)
theorem s_spec_AttrOk {h : AH} {a : Attr} (ok : Cel.ok a) : RCalls Tryz.prog n_spec_AttrOk [.agg a.cs] h (.bool (bp (attrOk a))) := by
  refine reader (c_spec_AttrOk _) (by simp only [old]) ?_
  unfold p_spec_AttrOk
  obtain ⟨k1, k2, k3⟩ := ok
  have k1 : a.key.size ≤ maxLen := k1
  have k3 : a.text.size ≤ maxLen := k3
  (repeat' first|refine vs ?_|(refine br ?_ ?_<;>intro _<;>try(exfalso;first|omega|contradiction))|((with_reducible refine g_callf n_spec_NameOk ?_);(refine aw_rcall_b (s_spec_NameOk k1) ?_ ?_ <;> intro hn <;> first | replace hn := bp_true hn | replace hn := bp_false hn))|((with_reducible refine g_callf n_spec_PlainOk ?_);(refine aw_rcall_b (s_spec_PlainOk k3) ?_ ?_ <;> intro hp <;> first | replace hp := bp_true hp | replace hp := bp_false hp))|((with_reducible refine g_callf n_spec_l1In ?_);(refine aw_rcall_b s_spec_l1In ?_ ?_ <;> intro hb <;> first | replace hb := inB_t hb | replace hb := inB_f hb))|((with_reducible refine g_idx ?_);((first|refine ix ?_|refine ixi ?_|(refine ixg ?_;intro _ _)|(refine ixgi ?_;intro _ _));first|rintro _ _ _ _ _ ⟨rfl,rfl⟩ _|rintro _ _ _ _ _ ⟨_,rfl,_⟩ _|rintro _ _ _ _ _ ⟨_,_,_,_,rfl,rfl,_,_⟩ _|intro _ _ _ _ _ _ _))|(refine sx ?_;intro _ _)|((with_reducible refine g_awp ?_);simp only [g0,g1,g2]))
  all_goals first
    | (refine pt ?_; unfold attrOk; simp_all [empty]; done)
    | (refine pf ?_; unfold attrOk; simp_all [empty]; done)
    | (refine pf ?_; unfold attrOk; simp_all [empty]; intros; omega)

def attrSize (a : Attr) : Int := if a.num = true then a.key.size + 4 else a.key.size + a.text.size
theorem s_impl_AttrSize {h : AH} {a : Attr} (hs : Sz.sz a ≤ 67108864) : RCalls Tryz.prog n_impl_AttrSize [.agg a.cs] h (.int .i64 (attrSize a)) := by
  refine reader (c_impl_AttrSize _) (by simp only [old]) ?_
  unfold p_impl_AttrSize
  have hs : a.key.size + a.text.size ≤ 67108864 := hs
  (repeat' first|refine vs ?_|(refine br ?_ ?_<;>intro _<;>try(exfalso;first|omega|contradiction))|((with_reducible refine g_idx ?_);((first|refine ix ?_|refine ixi ?_|(refine ixg ?_;intro _ _)|(refine ixgi ?_;intro _ _));first|rintro _ _ _ _ _ ⟨rfl,rfl⟩ _|rintro _ _ _ _ _ ⟨_,rfl,_⟩ _|rintro _ _ _ _ _ ⟨_,_,_,_,rfl,rfl,_,_⟩ _|intro _ _ _ _ _ _ _))|(refine sx ?_;intro _ _)|((with_reducible refine g_awp ?_);simp only [g0,g1,g2]))
  all_goals exact pi (by simp [attrSize, *])
theorem s_spec_AttrSize {h : AH} {a : Attr} (hs : Sz.sz a ≤ 67108864) : RCalls Tryz.prog n_spec_AttrSize [.agg a.cs] h (.int .i64 (attrSize a)) := by
  refine reader (c_spec_AttrSize _) (by simp only [old]) ?_
  unfold p_spec_AttrSize
  have hs : a.key.size + a.text.size ≤ 67108864 := hs
  (repeat' first|refine vs ?_|(refine br ?_ ?_<;>intro _<;>try(exfalso;first|omega|contradiction))|((with_reducible refine g_idx ?_);((first|refine ix ?_|refine ixi ?_|(refine ixg ?_;intro _ _)|(refine ixgi ?_;intro _ _));first|rintro _ _ _ _ _ ⟨rfl,rfl⟩ _|rintro _ _ _ _ _ ⟨_,rfl,_⟩ _|rintro _ _ _ _ _ ⟨_,_,_,_,rfl,rfl,_,_⟩ _|intro _ _ _ _ _ _ _))|(refine sx ?_;intro _ _)|((with_reducible refine g_awp ?_);simp only [g0,g1,g2]))
  all_goals exact pi (by simp [attrSize, *])
end Go.Proofs.YtekfdoknfcedpaaGreat
end
section
/- Lists of attributes; things. -/
set_option linter.unusedSimpArgs false
set_option linter.unusedVariables false
namespace Go.Proofs.YtekfdoknfcedpaaGreat
open Go Go.Ab
section
/- impl.AttrsOk -/
def p_impl_AttrsOk (x0 : AV) : Prog := Ln 0 x0 fun a=>.loop [.int .i64 0] (fun b=>Bn .lss (g b 0) a fun a=>.ite a (Ix 4 x0 (g b 0) fun a=>Ld 4 a fun a=>.op (.alloc [.str ⟨#[]⟩, .bool false, .int .i64 0, .str ⟨#[]⟩]) fun c=>.op (.st 4 c a) fun _=>Ld 4 c fun a=>Cl n_impl_AttrOk [a] fun a=>.op (.una .not a) fun a=>.gop a false (.mv (g b 0)) fun d=>.gop a false (.bin 0 .gtr d (.int .i64 0)) fun d=>.gop a false (.mv d) fun d=>.gop d true (.mv x0) fun e=>.gop d true (.mv (g b 0)) fun f=>.gop d true (.bin 0 .sub f (.int .i64 1)) fun f=>.gop d true (.idx 4 e f) fun e=>Gf d true 0 e fun e=>Gf d true 0 c fun c=>.gop d true (.bin 1 .geq e c) fun c=>.gop a false (.pick d c (.bool false)) fun c=>Pk a (.bool true) c fun a=>.ite a (.fin [.val (.bool false)]) (Bn .add (g b 0) (.int .i64 1) fun a=>.leaf 0 [a])) (.leaf 2 [g b 0])) fun a b=>tsel a 1 (.leaf 1 b) (tsel a 2 (Ln 0 x0 fun a=>Bn .leq a (.int .i64 4) fun a=>.fin [.val a]) .bad)
theorem c_impl_AttrsOk (x0 : AV) : CC Tryz.prog n_impl_AttrsOk [x0] (p_impl_AttrsOk x0) := cc Tryz.func246 [0, 5, 6, 7] (fun r => if r = 4 then [(0, []), (1, []), (2, []), (3, []), (4, []), (5, []), (6, []), (7, []), (8, []), (9, []), (10, []), (11, []), (12, []), (13, []), (14, []), (15, []), (16, []), (17, [])] else [])
/- spec.AttrsOk -/
def p_spec_AttrsOk (x0 : AV) : Prog := .loop [.int .i64 0] (fun a=>Ln 0 x0 fun b=>Bn .lss (g a 0) b fun b=>.ite b (Ix 4 x0 (g a 0) fun b=>Ld 4 b fun b=>Cl n_spec_AttrOk [b] fun b=>.op (.una .not b) fun b=>.gop b false (.mv (g a 0)) fun c=>.gop b false (.bin 0 .gtr c (.int .i64 0)) fun c=>.gop b false (.mv c) fun c=>.gop c true (.mv x0) fun d=>.gop c true (.mv (g a 0)) fun e=>.gop c true (.bin 0 .sub e (.int .i64 1)) fun e=>.gop c true (.idx 4 d e) fun d=>Gf c true 0 d fun d=>.gop c true (.mv x0) fun e=>.gop c true (.mv (g a 0)) fun f=>.gop c true (.idx 4 e f) fun e=>Gf c true 0 e fun e=>.gop c true (.bin 1 .geq d e) fun d=>.gop b false (.pick c d (.bool false)) fun c=>Pk b (.bool true) c fun b=>.ite b (.fin [.val (.bool false)]) (Bn .add (g a 0) (.int .i64 1) fun a=>.leaf 0 [a])) (.leaf 2 [g a 0])) fun a b=>tsel a 1 (.leaf 1 b) (tsel a 2 (Ln 0 x0 fun a=>Bn .leq a (.int .i64 4) fun a=>.fin [.val a]) .bad)
theorem c_spec_AttrsOk (x0 : AV) : CC Tryz.prog n_spec_AttrsOk [x0] (p_spec_AttrsOk x0) := cc Tryz.func253 [0, 3] (fun r => if r = 4 then [(0, []), (1, []), (2, []), (3, []), (4, []), (5, []), (6, []), (7, []), (8, []), (9, []), (10, []), (11, []), (12, []), (13, []), (14, []), (15, []), (16, []), (17, []), (18, []), (19, []), (20, []), (21, []), (22, []), (23, [])] else [])
/- impl.SizeOf -/
def p_impl_SizeOf (x0 : AV) : Prog := .op (.box x0) fun a=>Lg 5 a fun a=>Ln 0 a fun b=>.loop [.int .i64 12, .int .i64 0] (fun c=>Bn .lss (g c 1) b fun b=>.ite b (Ix 4 a (g c 1) fun a=>Ld 4 a fun a=>.op (.alloc [.str ⟨#[]⟩, .bool false, .int .i64 0, .str ⟨#[]⟩]) fun b=>.op (.st 4 b a) fun _=>Ld 4 b fun a=>Cl n_impl_AttrSize [a] fun a=>Bn .add (g c 0) a fun a=>Bn .add (g c 1) (.int .i64 1) fun b=>.leaf 0 [a, b]) (.leaf 2 [g c 0, g c 1])) fun a b=>tsel a 1 (.leaf 1 b) (tsel a 2 (.fin [.val (g b 0)]) .bad)
theorem c_impl_SizeOf (x0 : AV) : CC Tryz.prog n_impl_SizeOf [x0] (p_impl_SizeOf x0) := cc Tryz.func155 [3, 7, 8, 9] (fun _ => [])
/- spec.SizeOf -/
def p_spec_SizeOf (x0 : AV) : Prog := .op (.box x0) fun a=>.loop [.int .i64 12, .int .i64 0] (fun b=>Lg 5 a fun c=>Ln 0 c fun c=>Bn .lss (g b 1) c fun c=>.ite c (Lg 5 a fun a=>Ix 4 a (g b 1) fun a=>Ld 4 a fun a=>Cl n_spec_AttrSize [a] fun a=>Bn .add (g b 0) a fun a=>Bn .add (g b 1) (.int .i64 1) fun b=>.leaf 0 [a, b]) (.leaf 2 [g b 0, g b 1])) fun a b=>tsel a 1 (.leaf 1 b) (tsel a 2 (.fin [.val (g b 0)]) .bad)
theorem c_spec_SizeOf (x0 : AV) : CC Tryz.prog n_spec_SizeOf [x0] (p_spec_SizeOf x0) := cc Tryz.func232 [1, 3, 4] (fun _ => [])
/- impl.SpanOk -/
def p_impl_SpanOk (x0 : AV) : Prog := .op (.box x0) fun a=>Lg 0 a fun b=>Cl n_impl_within [b, .int .i64 1, .int .i64 999] fun b=>Gf b true 1 a fun c=>.gop b true (.call n_impl_within [c, .int .i64 1, .int .i64 999]) fun c=>Pk b c (.bool false) fun b=>Gf b true 3 a fun c=>.gop b true (.call n_impl_within [c, .int .i64 0, .int .i64 99999]) fun c=>Pk b c (.bool false) fun b=>Gf b true 2 a fun c=>Gf b true 3 a fun d=>.gop b true (.call n_impl_within [c, .int .i64 0, d]) fun c=>Pk b c (.bool false) fun b=>Gf b true 5 a fun c=>.gop b true (.call n_impl_AttrsOk [c]) fun c=>Pk b c (.bool false) fun b=>.gop b true (.ldn 6 a) fun a=>.gop b true (.call n_impl_SizeOf [a]) fun a=>.gop b true (.bin 0 .leq a (.int .i64 96)) fun a=>Pk b a (.bool false) fun a=>.fin [.val a]
theorem c_impl_SpanOk (x0 : AV) : CC Tryz.prog n_impl_SpanOk [x0] (p_impl_SpanOk x0) := cc Tryz.func164
/- spec.SpanOk -/
def p_spec_SpanOk (x0 : AV) : Prog := .op (.box x0) fun a=>Lg 0 a fun b=>Cl n_spec_l1In [b, .int .i64 1, .int .i64 999] fun b=>Gf b true 1 a fun c=>.gop b true (.call n_spec_l1In [c, .int .i64 1, .int .i64 999]) fun c=>Pk b c (.bool false) fun b=>Gf b true 2 a fun c=>.gop b true (.call n_spec_l1In [c, .int .i64 0, .int .i64 99999]) fun c=>Pk b c (.bool false) fun b=>Gf b true 3 a fun c=>Gf b true 2 a fun d=>.gop b true (.call n_spec_l1In [c, d, .int .i64 99999]) fun c=>Pk b c (.bool false) fun b=>Gf b true 5 a fun c=>.gop b true (.call n_spec_AttrsOk [c]) fun c=>Pk b c (.bool false) fun b=>.gop b true (.ldn 6 a) fun a=>.gop b true (.call n_spec_SizeOf [a]) fun a=>.gop b true (.bin 0 .leq a (.int .i64 96)) fun a=>Pk b a (.bool false) fun a=>.fin [.val a]
theorem c_spec_SpanOk (x0 : AV) : CC Tryz.prog n_spec_SpanOk [x0] (p_spec_SpanOk x0) := cc Tryz.func178
/- impl.TotalOf -/
def p_impl_TotalOf (x0 : AV) : Prog := Ln 0 x0 fun a=>.loop [.int .i64 0, .int .i64 0] (fun b=>Bn .lss (g b 1) a fun a=>.ite a (Ix 6 x0 (g b 1) fun a=>Ld 6 a fun a=>.op (.alloc z6_822) fun c=>.op (.st 6 c a) fun _=>Ld 6 c fun a=>Cl n_impl_SizeOf [a] fun a=>Bn .add (g b 0) a fun a=>Bn .add (g b 1) (.int .i64 1) fun b=>.leaf 0 [a, b]) (.leaf 2 [g b 0, g b 1])) fun a b=>tsel a 1 (.leaf 1 b) (tsel a 2 (.fin [.val (g b 0)]) .bad)
theorem c_impl_TotalOf (x0 : AV) : CC Tryz.prog n_impl_TotalOf [x0] (p_impl_TotalOf x0) := cc Tryz.func292 [3, 6, 7, 8] (fun _ => [])
/- spec.TotalOf -/
def p_spec_TotalOf (x0 : AV) : Prog := .loop [.int .i64 0, .int .i64 0] (fun a=>Ln 0 x0 fun b=>Bn .lss (g a 1) b fun b=>.ite b (Ix 6 x0 (g a 1) fun b=>Ld 6 b fun b=>Cl n_spec_SizeOf [b] fun b=>Bn .add (g a 0) b fun b=>Bn .add (g a 1) (.int .i64 1) fun a=>.leaf 0 [b, a]) (.leaf 2 [g a 0, g a 1])) fun a b=>tsel a 1 (.leaf 1 b) (tsel a 2 (.fin [.val (g b 0)]) .bad)
theorem c_spec_TotalOf (x0 : AV) : CC Tryz.prog n_spec_TotalOf [x0] (p_spec_TotalOf x0) := cc Tryz.func251 [0, 3, 4] (fun _ => [])
end
def kge (a b : ByteArray) : Bool := !(Op.bytesLess a.toList b.toList)
def attrsAt (l : List Attr) (i : Nat) (a : Attr) : Prop := attrOk a ∧ ∀ b, 0 < i → l[((i : Int) - 1).toNat]? = some b → kge b.key a.key = false
def attrsOk (l : List Attr) : Prop := (∀ i a, l[i]? = some a → attrsAt l i a) ∧ (l.length : Int) ≤ 4

theorem s_impl_AttrsOk {h : AH} {l : List Attr} {v : AV} {F : List Nat} (ok : ∀ x ∈ l, Cel.ok x) (r : SlRep h v l F) : RCalls Tryz.prog n_impl_AttrsOk [v] h (.bool (bp (attrsOk l))) := by
  refine reader (c_impl_AttrsOk _) (by simp only [old]) ?_
  unfold p_impl_AttrsOk
  have hsm := r.small
  refine vs ?_
  refine aw_upto l.length (fun i vs h1 => vs = [.int .i64 (i : Int)] ∧ i ≤ l.length ∧ Ext h h1 ∧ Upto l (attrsAt l) i) ⟨rfl, Nat.zero_le _, Ext.refl _, up0⟩ ?_
  rintro i vs h1 _ ⟨rfl, hi, e1, hu⟩
  simp only [g0]
  refine br (fun hlt => ?_) (fun hge => ?_)
  · obtain ⟨x, hx, -, -⟩ := drop_step (show i < l.length by omega)
    have okx := ok x (List.mem_of_getElem? hx)
    (repeat' first|refine vs ?_|(refine br ?_ ?_<;>intro _<;>try(exfalso;first|omega|contradiction))|((with_reducible refine g_callf n_impl_AttrOk ?_);(refine aw_rcall_b (s_impl_AttrOk okx) ?_ ?_ <;> intro hn <;> first | replace hn := bp_true hn | replace hn := bp_false hn))|((with_reducible refine g_idx ?_);((first|refine ix ?_|refine ixi ?_|(refine ixg ?_;intro _ _)|(refine ixgi ?_;intro _ _));first|rintro _ _ _ _ _ ⟨rfl,rfl⟩ _|rintro _ _ _ _ _ ⟨_,rfl,_⟩ _|rintro _ _ _ _ _ ⟨_,_,_,_,rfl,rfl,_,_⟩ _|intro _ _ _ _ _ _ _))|(refine sx ?_;intro _ _)|((with_reducible refine g_awp ?_);simp only [g0,g1,g2]))
    all_goals first
      | (refine pf fun k => ?_; have k := k.1 i x hx; simp_all [attrsAt, kge]; done)
      | (refine ⟨by omega, rfl, by omega, ext_auto, upS hu hx ⟨hn, fun b h0 hb => ?_⟩⟩; first | (exfalso; omega) | (simp_all [kge]; done))
  · (repeat' first|refine vs ?_|(refine br ?_ ?_<;>intro _<;>try(exfalso;first|omega|contradiction))|((with_reducible refine g_idx ?_);((first|refine ix ?_|refine ixi ?_|(refine ixg ?_;intro _ _)|(refine ixgi ?_;intro _ _));first|rintro _ _ _ _ _ ⟨rfl,rfl⟩ _|rintro _ _ _ _ _ ⟨_,rfl,_⟩ _|rintro _ _ _ _ _ ⟨_,_,_,_,rfl,rfl,_,_⟩ _|intro _ _ _ _ _ _ _))|(refine sx ?_;intro _ _)|((with_reducible refine g_awp ?_);simp only [g0,g1,g2]))
    all_goals (have e : i = l.length := (by omega); rw [e] at hu; first | exact pt ⟨upEnd hu, by omega⟩ | exact pf fun k => by have := k.2; omega)
theorem s_spec_AttrsOk {h : AH} {l : List Attr} {v : AV} {F : List Nat} (ok : ∀ x ∈ l, Cel.ok x) (r : SlRep h v l F) : RCalls Tryz.prog n_spec_AttrsOk [v] h (.bool (bp (attrsOk l))) := by
  refine reader (c_spec_AttrsOk _) (by simp only [old]) ?_
  unfold p_spec_AttrsOk
  have hsm := r.small
  refine aw_upto l.length (fun i vs h1 => vs = [.int .i64 (i : Int)] ∧ i ≤ l.length ∧ Ext h h1 ∧ Upto l (attrsAt l) i) ⟨rfl, Nat.zero_le _, Ext.refl _, up0⟩ ?_
  rintro i vs h1 _ ⟨rfl, hi, e1, hu⟩
  simp only [g0]
  refine vs ?_
  refine br (fun hlt => ?_) (fun hge => ?_)
  · obtain ⟨x, hx, -, -⟩ := drop_step (show i < l.length by omega)
    have okx := ok x (List.mem_of_getElem? hx)
    (repeat' first|refine vs ?_|(refine br ?_ ?_<;>intro _<;>try(exfalso;first|omega|contradiction))|((with_reducible refine g_callf n_spec_AttrOk ?_);(refine aw_rcall_b (s_spec_AttrOk okx) ?_ ?_ <;> intro hn <;> first | replace hn := bp_true hn | replace hn := bp_false hn))|((with_reducible refine g_idx ?_);((first|refine ix ?_|refine ixi ?_|(refine ixg ?_;intro _ _)|(refine ixgi ?_;intro _ _));first|rintro _ _ _ _ _ ⟨rfl,rfl⟩ _|rintro _ _ _ _ _ ⟨_,rfl,_⟩ _|rintro _ _ _ _ _ ⟨_,_,_,_,rfl,rfl,_,_⟩ _|intro _ _ _ _ _ _ _))|(refine sx ?_;intro _ _)|((with_reducible refine g_awp ?_);simp only [g0,g1,g2]))
    all_goals first
      | (refine pf fun k => ?_; have k := k.1 i x hx; simp_all [attrsAt, kge]; done)
      | (refine ⟨by omega, rfl, by omega, ext_auto, upS hu hx ⟨hn, fun b h0 hb => ?_⟩⟩; first | (exfalso; omega) | (simp_all [kge]; done))
  · (repeat' first|refine vs ?_|(refine br ?_ ?_<;>intro _<;>try(exfalso;first|omega|contradiction))|((with_reducible refine g_idx ?_);((first|refine ix ?_|refine ixi ?_|(refine ixg ?_;intro _ _)|(refine ixgi ?_;intro _ _));first|rintro _ _ _ _ _ ⟨rfl,rfl⟩ _|rintro _ _ _ _ _ ⟨_,rfl,_⟩ _|rintro _ _ _ _ _ ⟨_,_,_,_,rfl,rfl,_,_⟩ _|intro _ _ _ _ _ _ _))|(refine sx ?_;intro _ _)|((with_reducible refine g_awp ?_);simp only [g0,g1,g2]))
    all_goals (have e : i = l.length := (by omega); rw [e] at hu; first | exact pt ⟨upEnd hu, by omega⟩ | exact pf fun k => by have := k.2; omega)

/-! ### Sizes -/
def sumI {α : Type} (f : α → Int) : List α → Int
  | [] => 0
  | x :: l => f x + sumI f l
theorem sumI_app {α : Type} (f : α → Int) : ∀ l r : List α, sumI f (l ++ r) = sumI f l + sumI f r
  | [], r => by simp [sumI]
  | x :: l, r => by simp only [List.cons_append, sumI, sumI_app f l]; omega
theorem sumI_take {α : Type} (f : α → Int) {xs : List α} {i : Nat} {x : α} (ht : xs.take (i + 1) = xs.take i ++ [x]) : sumI f (xs.take (i + 1)) = sumI f (xs.take i) + f x := by rw [ht, sumI_app]; simp [sumI]
theorem sumI_b {α : Type} [Sz α] {f : α → Int} {a b : Int} (hb : ∀ x, 0 ≤ f x ∧ f x ≤ a + b * (Sz.sz x : Nat)) : ∀ l : List α, 0 ≤ sumI f l ∧ sumI f l ≤ a * l.length + b * (szs l : Nat)
  | [] => by simp [sumI, szs]
  | x :: l => by
    have h1 := hb x; have h2 := sumI_b hb l
    simp only [sumI, szs, List.length_cons]
    have e1 : a * ((l.length + 1 : Nat) : Int) = a * l.length + a := by rw [Int.natCast_add, Int.mul_add]; simp
    have e2 : b * ((Sz.sz x + szs l : Nat) : Int) = b * (Sz.sz x : Nat) + b * (szs l : Nat) := by rw [Int.natCast_add, Int.mul_add]
    omega
theorem attrSize_b (a : Attr) : 0 ≤ attrSize a ∧ attrSize a ≤ 4 + 1 * (Sz.sz a : Nat) := by
  have : Sz.sz a = a.key.size + a.text.size := rfl
  unfold attrSize; split <;> omega
def spanSize (s : Span) : Int := 12 + sumI attrSize s.attrs
theorem spanSize_b (s : Span) : 0 ≤ spanSize s ∧ spanSize s ≤ 12 + 4 * (Sz.sz s : Nat) := by
  have : Sz.sz s = s.attrs.length + szs s.attrs := rfl
  have := sumI_b attrSize_b s.attrs
  unfold spanSize; omega
theorem s_impl_SizeOf {h : AH} {s : Span} {v : AV} {F : List Nat} (hs : Sz.sz s ≤ 67108864) (r : SlRep h v s.attrs F) : RCalls Tryz.prog n_impl_SizeOf [.agg (s.cs v)] h (.int .i64 (spanSize s)) := by
  refine reader (c_impl_SizeOf _) (by simp only [old]) ?_
  unfold p_impl_SizeOf
  have hsz : Sz.sz s = s.attrs.length + szs s.attrs := rfl
  have hsm := r.small
  refine vs ?_
  refine aw_upto s.attrs.length (fun i vs h1 => vs = [.int .i64 (12 + sumI attrSize (s.attrs.take i)), .int .i64 (i : Int)] ∧ i ≤ s.attrs.length ∧ Ext h h1) ⟨rfl, Nat.zero_le _, ext_auto⟩ ?_
  rintro i vs h1 _ ⟨rfl, hi, e1⟩
  simp only [g0, g1]
  refine br (fun hlt => ?_) (fun hge => ?_)
  · obtain ⟨x, hx, -, ht⟩ := drop_step (show i < s.attrs.length by omega)
    have h2 := attrSize_b x
    have h3 := sumI_b attrSize_b (s.attrs.take i)
    have h4 := szs_take_le s.attrs i
    have h5 := szs_mem (List.mem_of_getElem? hx)
    rw [List.length_take] at h3
    (repeat' first|refine vs ?_|(refine br ?_ ?_<;>intro _<;>try(exfalso;first|omega|contradiction))|((with_reducible refine g_callf n_impl_AttrSize ?_);refine aw_rcall (s_impl_AttrSize (by omega)) ?_)|((with_reducible refine g_idx ?_);((first|refine ix ?_|refine ixi ?_|(refine ixg ?_;intro _ _)|(refine ixgi ?_;intro _ _));first|rintro _ _ _ _ _ ⟨rfl,rfl⟩ _|rintro _ _ _ _ _ ⟨_,rfl,_⟩ _|rintro _ _ _ _ _ ⟨_,_,_,_,rfl,rfl,_,_⟩ _|intro _ _ _ _ _ _ _))|(refine sx ?_;intro _ _)|((with_reducible refine g_awp ?_);simp only [g0,g1,g2]))
    exact ⟨by omega, by rw [sumI_take _ ht, Int.add_assoc], by omega, ext_auto⟩
  · (repeat' first|refine vs ?_|(refine br ?_ ?_<;>intro _<;>try(exfalso;first|omega|contradiction))|((with_reducible refine g_idx ?_);((first|refine ix ?_|refine ixi ?_|(refine ixg ?_;intro _ _)|(refine ixgi ?_;intro _ _));first|rintro _ _ _ _ _ ⟨rfl,rfl⟩ _|rintro _ _ _ _ _ ⟨_,rfl,_⟩ _|rintro _ _ _ _ _ ⟨_,_,_,_,rfl,rfl,_,_⟩ _|intro _ _ _ _ _ _ _))|(refine sx ?_;intro _ _)|((with_reducible refine g_awp ?_);simp only [g0,g1,g2]))
    refine pi ?_
    rw [show i = s.attrs.length by omega, List.take_length]; rfl
theorem s_spec_SizeOf {h : AH} {s : Span} {v : AV} {F : List Nat} (hs : Sz.sz s ≤ 67108864) (r : SlRep h v s.attrs F) : RCalls Tryz.prog n_spec_SizeOf [.agg (s.cs v)] h (.int .i64 (spanSize s)) := by
  refine reader (c_spec_SizeOf _) (by simp only [old]) ?_
  unfold p_spec_SizeOf
  have hsz : Sz.sz s = s.attrs.length + szs s.attrs := rfl
  have hsm := r.small
  refine vs ?_
  refine aw_upto s.attrs.length (fun i vs h1 => vs = [.int .i64 (12 + sumI attrSize (s.attrs.take i)), .int .i64 (i : Int)] ∧ i ≤ s.attrs.length ∧ Ext (h.push ⟨s.cs v, 0, 0⟩) h1) ⟨rfl, Nat.zero_le _, ext_auto⟩ ?_
  rintro i vs h1 _ ⟨rfl, hi, e1⟩
  simp only [g0, g1]
  refine vs ?_
  refine br (fun hlt => ?_) (fun hge => ?_)
  · obtain ⟨x, hx, -, ht⟩ := drop_step (show i < s.attrs.length by omega)
    have h2 := attrSize_b x
    have h3 := sumI_b attrSize_b (s.attrs.take i)
    have h4 := szs_take_le s.attrs i
    have h5 := szs_mem (List.mem_of_getElem? hx)
    rw [List.length_take] at h3
    (repeat' first|refine vs ?_|(refine br ?_ ?_<;>intro _<;>try(exfalso;first|omega|contradiction))|((with_reducible refine g_callf n_spec_AttrSize ?_);refine aw_rcall (s_spec_AttrSize (by omega)) ?_)|((with_reducible refine g_idx ?_);((first|refine ix ?_|refine ixi ?_|(refine ixg ?_;intro _ _)|(refine ixgi ?_;intro _ _));first|rintro _ _ _ _ _ ⟨rfl,rfl⟩ _|rintro _ _ _ _ _ ⟨_,rfl,_⟩ _|rintro _ _ _ _ _ ⟨_,_,_,_,rfl,rfl,_,_⟩ _|intro _ _ _ _ _ _ _))|(refine sx ?_;intro _ _)|((with_reducible refine g_awp ?_);simp only [g0,g1,g2]))
    exact ⟨by omega, by rw [sumI_take _ ht, Int.add_assoc], by omega, ext_auto⟩
  · (repeat' first|refine vs ?_|(refine br ?_ ?_<;>intro _<;>try(exfalso;first|omega|contradiction))|((with_reducible refine g_idx ?_);((first|refine ix ?_|refine ixi ?_|(refine ixg ?_;intro _ _)|(refine ixgi ?_;intro _ _));first|rintro _ _ _ _ _ ⟨rfl,rfl⟩ _|rintro _ _ _ _ _ ⟨_,rfl,_⟩ _|rintro _ _ _ _ _ ⟨_,_,_,_,rfl,rfl,_,_⟩ _|intro _ _ _ _ _ _ _))|(refine sx ?_;intro _ _)|((with_reducible refine g_awp ?_);simp only [g0,g1,g2]))
    refine pi ?_
    rw [show i = s.attrs.length by omega, List.take_length]; rfl

def spanOk (s : Span) : Prop := (1 ≤ s.trace ∧ s.trace ≤ 999) ∧ (1 ≤ s.id ∧ s.id ≤ 999) ∧ (0 ≤ s.start ∧ s.start ≤ s.fin ∧ s.fin ≤ 99999) ∧ attrsOk s.attrs ∧ spanSize s ≤ 96
theorem s_impl_SpanOk {h : AH} {s : Span} {v : AV} {F : List Nat} (ok : Cel.ok s) (hs : Sz.sz s ≤ 67108864) (r : SlRep h v s.attrs F) : RCalls Tryz.prog n_impl_SpanOk [.agg (s.cs v)] h (.bool (bp (spanOk s))) := by
  refine reader (c_impl_SpanOk _) (by simp only [old]) ?_
  unfold p_impl_SpanOk
  obtain ⟨k1, k2, k3, k4, k5⟩ := ok
  (repeat' first|refine vs ?_|(refine br ?_ ?_<;>intro _<;>try(exfalso;first|omega|contradiction))|((with_reducible refine g_callf n_impl_within ?_);(refine aw_rcall_b s_impl_within ?_ ?_ <;> intro hb <;> first | replace hb := inB_t hb | replace hb := inB_f hb))|((with_reducible refine g_callf n_impl_AttrsOk ?_);(refine aw_rcall_b (s_impl_AttrsOk k5 slr_auto) ?_ ?_ <;> intro hn <;> first | replace hn := bp_true hn | replace hn := bp_false hn))|((with_reducible refine g_callf n_impl_SizeOf ?_);refine aw_rcall (s_impl_SizeOf hs slr_auto) ?_)|((with_reducible refine g_idx ?_);((first|refine ix ?_|refine ixi ?_|(refine ixg ?_;intro _ _)|(refine ixgi ?_;intro _ _));first|rintro _ _ _ _ _ ⟨rfl,rfl⟩ _|rintro _ _ _ _ _ ⟨_,rfl,_⟩ _|rintro _ _ _ _ _ ⟨_,_,_,_,rfl,rfl,_,_⟩ _|intro _ _ _ _ _ _ _))|(refine sx ?_;intro _ _)|((with_reducible refine g_awp ?_);simp only [g0,g1,g2]))
  all_goals first
    | exact pt ⟨by omega, by omega, by omega, by assumption, by omega⟩
    | exact pf fun k => by obtain ⟨a1, a2, a3, a4, a5⟩ := k; first | omega | contradiction
theorem s_spec_SpanOk {h : AH} {s : Span} {v : AV} {F : List Nat} (ok : Cel.ok s) (hs : Sz.sz s ≤ 67108864) (r : SlRep h v s.attrs F) : RCalls Tryz.prog n_spec_SpanOk [.agg (s.cs v)] h (.bool (bp (spanOk s))) := by
  refine reader (c_spec_SpanOk _) (by simp only [old]) ?_
  unfold p_spec_SpanOk
  obtain ⟨k1, k2, k3, k4, k5⟩ := ok
  (repeat' first|refine vs ?_|(refine br ?_ ?_<;>intro _<;>try(exfalso;first|omega|contradiction))|((with_reducible refine g_callf n_spec_l1In ?_);(refine aw_rcall_b s_spec_l1In ?_ ?_ <;> intro hb <;> first | replace hb := inB_t hb | replace hb := inB_f hb))|((with_reducible refine g_callf n_spec_AttrsOk ?_);(refine aw_rcall_b (s_spec_AttrsOk k5 slr_auto) ?_ ?_ <;> intro hn <;> first | replace hn := bp_true hn | replace hn := bp_false hn))|((with_reducible refine g_callf n_spec_SizeOf ?_);refine aw_rcall (s_spec_SizeOf hs slr_auto) ?_)|((with_reducible refine g_idx ?_);((first|refine ix ?_|refine ixi ?_|(refine ixg ?_;intro _ _)|(refine ixgi ?_;intro _ _));first|rintro _ _ _ _ _ ⟨rfl,rfl⟩ _|rintro _ _ _ _ _ ⟨_,rfl,_⟩ _|rintro _ _ _ _ _ ⟨_,_,_,_,rfl,rfl,_,_⟩ _|intro _ _ _ _ _ _ _))|(refine sx ?_;intro _ _)|((with_reducible refine g_awp ?_);simp only [g0,g1,g2]))
  all_goals first
    | exact pt ⟨by omega, by omega, by omega, by assumption, by omega⟩
    | exact pf fun k => by obtain ⟨a1, a2, a3, a4, a5⟩ := k; first | omega | contradiction

theorem s_impl_TotalOf {h : AH} {l : List Span} {v : AV} {F : List Nat} (hs : l.length + szs l ≤ 67108864) (r : SlRep h v l F) : RCalls Tryz.prog n_impl_TotalOf [v] h (.int .i64 (sumI spanSize l)) := by
  refine reader (c_impl_TotalOf _) (by simp only [old]) ?_
  unfold p_impl_TotalOf
  have hsm := r.small
  refine vs ?_
  refine aw_upto l.length (fun i vs h1 => vs = [.int .i64 (sumI spanSize (l.take i)), .int .i64 (i : Int)] ∧ i ≤ l.length ∧ Ext h h1) ⟨rfl, Nat.zero_le _, ext_auto⟩ ?_
  rintro i vs h1 _ ⟨rfl, hi, e1⟩
  simp only [g0, g1]
  refine br (fun hlt => ?_) (fun hge => ?_)
  · obtain ⟨x, hx, -, ht⟩ := drop_step (show i < l.length by omega)
    have h2 := spanSize_b x
    have h3 := sumI_b spanSize_b (l.take i)
    have h4 := szs_take_le l i
    have h5 := szs_mem (List.mem_of_getElem? hx)
    rw [List.length_take] at h3
    (repeat' first|refine vs ?_|(refine br ?_ ?_<;>intro _<;>try(exfalso;first|omega|contradiction))|((with_reducible refine g_callf n_impl_SizeOf ?_);refine aw_rcall (s_impl_SizeOf (by omega) slr_auto) ?_)|((with_reducible refine g_idx ?_);((first|refine ix ?_|refine ixi ?_|(refine ixg ?_;intro _ _)|(refine ixgi ?_;intro _ _));first|rintro _ _ _ _ _ ⟨rfl,rfl⟩ _|rintro _ _ _ _ _ ⟨_,rfl,_⟩ _|rintro _ _ _ _ _ ⟨_,_,_,_,rfl,rfl,_,_⟩ _|intro _ _ _ _ _ _ _))|(refine sx ?_;intro _ _)|((with_reducible refine g_awp ?_);simp only [g0,g1,g2]))
    exact ⟨by omega, by rw [sumI_take _ ht], by omega, ext_auto⟩
  · (repeat' first|refine vs ?_|(refine br ?_ ?_<;>intro _<;>try(exfalso;first|omega|contradiction))|((with_reducible refine g_idx ?_);((first|refine ix ?_|refine ixi ?_|(refine ixg ?_;intro _ _)|(refine ixgi ?_;intro _ _));first|rintro _ _ _ _ _ ⟨rfl,rfl⟩ _|rintro _ _ _ _ _ ⟨_,rfl,_⟩ _|rintro _ _ _ _ _ ⟨_,_,_,_,rfl,rfl,_,_⟩ _|intro _ _ _ _ _ _ _))|(refine sx ?_;intro _ _)|((with_reducible refine g_awp ?_);simp only [g0,g1,g2]))
    refine pi ?_
    rw [show i = l.length by omega, List.take_length]
theorem s_spec_TotalOf {h : AH} {l : List Span} {v : AV} {F : List Nat} (hs : l.length + szs l ≤ 67108864) (r : SlRep h v l F) : RCalls Tryz.prog n_spec_TotalOf [v] h (.int .i64 (sumI spanSize l)) := by
  refine reader (c_spec_TotalOf _) (by simp only [old]) ?_
  unfold p_spec_TotalOf
  have hsm := r.small
  refine aw_upto l.length (fun i vs h1 => vs = [.int .i64 (sumI spanSize (l.take i)), .int .i64 (i : Int)] ∧ i ≤ l.length ∧ Ext h h1) ⟨rfl, Nat.zero_le _, ext_auto⟩ ?_
  rintro i vs h1 _ ⟨rfl, hi, e1⟩
  simp only [g0, g1]
  refine vs ?_
  refine br (fun hlt => ?_) (fun hge => ?_)
  · obtain ⟨x, hx, -, ht⟩ := drop_step (show i < l.length by omega)
    have h2 := spanSize_b x
    have h3 := sumI_b spanSize_b (l.take i)
    have h4 := szs_take_le l i
    have h5 := szs_mem (List.mem_of_getElem? hx)
    rw [List.length_take] at h3
    (repeat' first|refine vs ?_|(refine br ?_ ?_<;>intro _<;>try(exfalso;first|omega|contradiction))|((with_reducible refine g_callf n_spec_SizeOf ?_);refine aw_rcall (s_spec_SizeOf (by omega) slr_auto) ?_)|((with_reducible refine g_idx ?_);((first|refine ix ?_|refine ixi ?_|(refine ixg ?_;intro _ _)|(refine ixgi ?_;intro _ _));first|rintro _ _ _ _ _ ⟨rfl,rfl⟩ _|rintro _ _ _ _ _ ⟨_,rfl,_⟩ _|rintro _ _ _ _ _ ⟨_,_,_,_,rfl,rfl,_,_⟩ _|intro _ _ _ _ _ _ _))|(refine sx ?_;intro _ _)|((with_reducible refine g_awp ?_);simp only [g0,g1,g2]))
    exact ⟨by omega, by rw [sumI_take _ ht], by omega, ext_auto⟩
  · (repeat' first|refine vs ?_|(refine br ?_ ?_<;>intro _<;>try(exfalso;first|omega|contradiction))|((with_reducible refine g_idx ?_);((first|refine ix ?_|refine ixi ?_|(refine ixg ?_;intro _ _)|(refine ixgi ?_;intro _ _));first|rintro _ _ _ _ _ ⟨rfl,rfl⟩ _|rintro _ _ _ _ _ ⟨_,rfl,_⟩ _|rintro _ _ _ _ _ ⟨_,_,_,_,rfl,rfl,_,_⟩ _|intro _ _ _ _ _ _ _))|(refine sx ?_;intro _ _)|((with_reducible refine g_awp ?_);simp only [g0,g1,g2]))
    refine pi ?_
    rw [show i = l.length by omega, List.take_length]
end Go.Proofs.YtekfdoknfcedpaaGreat
end
section
/- Things that are the same. -/
set_option linter.unusedSimpArgs false
set_option linter.unusedVariables false
namespace Go.Proofs.YtekfdoknfcedpaaGreat
open Go Go.Ab
section
/- impl.SameSpan -/
def p_impl_SameSpan (x0 x1 : AV) : Prog := .op (.box x0) fun a=>.op (.box x1) fun b=>Lg 0 a fun c=>Lg 0 b fun d=>Bn .eql c d fun c=>Gf c true 1 a fun d=>Gf c true 1 b fun e=>.gop c true (.bin 0 .eql d e) fun d=>Pk c d (.bool false) fun c=>Gf c true 2 a fun d=>Gf c true 2 b fun e=>.gop c true (.bin 0 .eql d e) fun d=>Pk c d (.bool false) fun c=>Gf c true 3 a fun d=>Gf c true 3 b fun e=>.gop c true (.bin 0 .eql d e) fun d=>Pk c d (.bool false) fun c=>Gf c true 4 a fun d=>Gf c true 4 b fun e=>.gop c true (.bin 2 .eql d e) fun d=>Pk c d (.bool false) fun c=>Gf c true 5 a fun a=>Gf c true 5 b fun b=>.gop c true (.call n_slices_Equal_Attr [a, b]) fun a=>Pk c a (.bool false) fun a=>.fin [.val a]
theorem c_impl_SameSpan (x0 x1 : AV) : CC Tryz.prog n_impl_SameSpan [x0, x1] (p_impl_SameSpan x0 x1) := cc Tryz.func274
/- spec.SameSpan -/
def p_spec_SameSpan (x0 x1 : AV) : Prog := .op (.box x0) fun a=>.op (.box x1) fun b=>Lg 0 a fun c=>Lg 0 b fun d=>Bn .neq c d fun c=>Gf c false 1 a fun d=>Gf c false 1 b fun e=>.gop c false (.bin 0 .neq d e) fun d=>Pk c (.bool true) d fun c=>Gf c false 2 a fun d=>Gf c false 2 b fun e=>.gop c false (.bin 0 .neq d e) fun d=>Pk c (.bool true) d fun c=>Gf c false 3 a fun d=>Gf c false 3 b fun e=>.gop c false (.bin 0 .neq d e) fun d=>Pk c (.bool true) d fun c=>Gf c false 4 a fun d=>Gf c false 4 b fun e=>.gop c false (.bin 2 .neq d e) fun d=>Pk c (.bool true) d fun c=>Gf c false 5 a fun d=>.gop c false (.len 0 d) fun d=>Gf c false 5 b fun e=>.gop c false (.len 0 e) fun e=>.gop c false (.bin 0 .neq d e) fun d=>Pk c (.bool true) d fun c=>.ite c (.fin [.val (.bool false)]) (.loop [.int .i64 0] (fun c=>Lg 5 a fun d=>Ln 0 d fun d=>Bn .lss (g c 0) d fun d=>.ite d (Lg 5 a fun a=>Ix 4 a (g c 0) fun a=>Ld 4 a fun a=>Lg 5 b fun b=>Ix 4 b (g c 0) fun b=>Ld 4 b fun b=>.op (.eqs [1, 2, 0, 1] true a b) fun a=>.ite a (.fin [.val (.bool false)]) (Bn .add (g c 0) (.int .i64 1) fun a=>.leaf 0 [a])) (.leaf 2 [g c 0])) fun a b=>tsel a 1 (.leaf 1 b) (tsel a 2 (.fin [.val (.bool true)]) .bad))
theorem c_spec_SameSpan (x0 x1 : AV) : CC Tryz.prog n_spec_SameSpan [x0, x1] (p_spec_SameSpan x0 x1) := cc Tryz.func255 [2, 3, 5] (fun r => if r = 6 then [(0, []), (1, []), (2, []), (3, []), (4, []), (5, []), (6, []), (7, []), (8, []), (9, []), (10, [])] else [])
/- slices.Equal[[]impl.Attr,impl.Attr] -/
def p_slices_Equal_Attr (x0 x1 : AV) : Prog := Ln 0 x0 fun a=>Ln 0 x1 fun b=>Bn .neq a b fun a=>.ite a (.fin [.val (.bool false)]) (Ln 0 x0 fun a=>.loop [.int .i64 0] (fun b=>Bn .lss (g b 0) a fun a=>.ite a (Ix 4 x0 (g b 0) fun a=>Ld 4 a fun a=>Ix 4 x1 (g b 0) fun c=>Ld 4 c fun c=>.op (.eqs [1, 2, 0, 1] true a c) fun a=>.ite a (.fin [.val (.bool false)]) (Bn .add (g b 0) (.int .i64 1) fun a=>.leaf 0 [a])) (.leaf 2 [g b 0])) fun a b=>tsel a 1 (.leaf 1 b) (tsel a 2 (.fin [.val (.bool true)]) .bad))
theorem c_slices_Equal_Attr (x0 x1 : AV) : CC Tryz.prog n_slices_Equal_Attr [x0, x1] (p_slices_Equal_Attr x0 x1) := cc Tryz.func320 [0, 1, 12, 13] (fun r => if r = 6 then [(0, []), (1, []), (2, []), (3, []), (4, []), (5, []), (6, []), (7, []), (8, [])] else [])
end
theorem aeqs_Attr (x y : Attr) : aeqs [1, 2, 0, 1] x.cs y.cs = some (bp (x = y)) := by
  have : aeqs [1, 2, 0, 1] x.cs y.cs = some (decide (x.key = y.key) && ((x.num == y.num) && (decide (x.n = y.n) && (decide (x.text = y.text) && true)))) := rfl
  rw [this]
  congr 1
  refine bp_eq ?_
  cases x; cases y
  simp [Attr.mk.injEq]
section
variable {P : Program} {h : AH} {Q : Nat → List AV → AH → Prop} {k : AV → Prog}
theorem w_eqsA {x y : Attr} (h1 : ¬ x = y → (k (.bool true)).awp P h Q) (h2 : x = y → (k (.bool false)).awp P h Q) : (Prog.op (.eqs [1, 2, 0, 1] true (.agg x.cs) (.agg y.cs)) k).awp P h Q := by
  simp only [Prog.awp, AOp.go, aeqs_Attr, if_true]
  by_cases e : x = y
  · rw [bp_t e]; exact h2 e
  · rw [bp_f e]; exact h1 e
end

theorem s_slices_Equal_Attr {h : AH} {xs ys : List Attr} {v0 v1 : AV} {F G : List Nat} (r : SlRep h v0 xs F) (r' : SlRep h v1 ys G) : RCalls Tryz.prog n_slices_Equal_Attr [v0, v1] h (.bool (bp (xs = ys))) := by
  refine reader (c_slices_Equal_Attr _ _) (by simp only [old]) ?_
  unfold p_slices_Equal_Attr
  have hsm := r.small
  refine aw_len r (aw_len r' ?_)
  (repeat' first|refine vs ?_|(refine br ?_ ?_<;>intro _<;>try(exfalso;first|omega|contradiction))|((with_reducible refine g_idx ?_);((first|refine ix ?_|refine ixi ?_|(refine ixg ?_;intro _ _)|(refine ixgi ?_;intro _ _));first|rintro _ _ _ _ _ ⟨rfl,rfl⟩ _|rintro _ _ _ _ _ ⟨_,rfl,_⟩ _|rintro _ _ _ _ _ ⟨_,_,_,_,rfl,rfl,_,_⟩ _|intro _ _ _ _ _ _ _))|(refine sx ?_;intro _ _)|((with_reducible refine g_awp ?_);simp only [g0,g1,g2]))
  · exact pf (by intro k; subst k; omega)
  · refine aw_upto xs.length (fun i vs h1 => vs = [.int .i64 (i : Int)] ∧ i ≤ xs.length ∧ h1 = h ∧ EqUp xs ys i) ⟨rfl, Nat.zero_le _, rfl, eu0⟩ ?_
    rintro i vs h1 _ ⟨rfl, hi, rfl, hu⟩
    simp only [g0]
    refine br (fun hlt => ?_) (fun hge => ?_)
    · obtain ⟨x, hx, -, -⟩ := drop_step (show i < xs.length by omega)
      obtain ⟨y, hy, -, -⟩ := drop_step (show i < ys.length by omega)
      refine vs ?_
      refine aw_idx r hx rfl ?_
      rintro b o _ _ a ⟨rfl, rfl⟩ _
      refine vs ?_
      refine aw_idx r' hy rfl ?_
      rintro b' o' _ _ a' ⟨rfl, rfl⟩ _
      refine vs ?_
      refine w_eqsA (fun e => ?_) (fun e => ?_)
      · (repeat' first|refine vs ?_|(refine br ?_ ?_<;>intro _<;>try(exfalso;first|omega|contradiction))|((with_reducible refine g_idx ?_);((first|refine ix ?_|refine ixi ?_|(refine ixg ?_;intro _ _)|(refine ixgi ?_;intro _ _));first|rintro _ _ _ _ _ ⟨rfl,rfl⟩ _|rintro _ _ _ _ _ ⟨_,rfl,_⟩ _|rintro _ _ _ _ _ ⟨_,_,_,_,rfl,rfl,_,_⟩ _|intro _ _ _ _ _ _ _))|(refine sx ?_;intro _ _)|((with_reducible refine g_awp ?_);simp only [g0,g1,g2]))
        exact pf (euNot hx hy e)
      · (repeat' first|refine vs ?_|(refine br ?_ ?_<;>intro _<;>try(exfalso;first|omega|contradiction))|((with_reducible refine g_idx ?_);((first|refine ix ?_|refine ixi ?_|(refine ixg ?_;intro _ _)|(refine ixgi ?_;intro _ _));first|rintro _ _ _ _ _ ⟨rfl,rfl⟩ _|rintro _ _ _ _ _ ⟨_,rfl,_⟩ _|rintro _ _ _ _ _ ⟨_,_,_,_,rfl,rfl,_,_⟩ _|intro _ _ _ _ _ _ _))|(refine sx ?_;intro _ _)|((with_reducible refine g_awp ?_);simp only [g0,g1,g2]))
        exact ⟨by omega, rfl, by omega, rfl, euS hu hx hy e⟩
    · (repeat' first|refine vs ?_|(refine br ?_ ?_<;>intro _<;>try(exfalso;first|omega|contradiction))|((with_reducible refine g_idx ?_);((first|refine ix ?_|refine ixi ?_|(refine ixg ?_;intro _ _)|(refine ixgi ?_;intro _ _));first|rintro _ _ _ _ _ ⟨rfl,rfl⟩ _|rintro _ _ _ _ _ ⟨_,rfl,_⟩ _|rintro _ _ _ _ _ ⟨_,_,_,_,rfl,rfl,_,_⟩ _|intro _ _ _ _ _ _ _))|(refine sx ?_;intro _ _)|((with_reducible refine g_awp ?_);simp only [g0,g1,g2]))
      exact pt (euEnd (by rw [show i = xs.length by omega] at hu; exact hu) (by omega))

theorem s_impl_SameSpan {h : AH} {a b : Span} {v v' : AV} {F F' : List Nat} (r : SlRep h v a.attrs F) (r' : SlRep h v' b.attrs F') : RCalls Tryz.prog n_impl_SameSpan [.agg (a.cs v), .agg (b.cs v')] h (.bool (bp (a = b))) := by
  refine reader (c_impl_SameSpan _ _) (by simp only [old]) ?_
  unfold p_impl_SameSpan
  (repeat' first|refine vs ?_|(refine br ?_ ?_<;>intro _<;>try(exfalso;first|omega|contradiction))|((with_reducible refine g_callf n_slices_Equal_Attr ?_);(refine aw_rcall_b (s_slices_Equal_Attr slr_auto slr_auto) ?_ ?_ <;> intro hn <;> first | replace hn := bp_true hn | replace hn := bp_false hn))|((with_reducible refine g_idx ?_);((first|refine ix ?_|refine ixi ?_|(refine ixg ?_;intro _ _)|(refine ixgi ?_;intro _ _));first|rintro _ _ _ _ _ ⟨rfl,rfl⟩ _|rintro _ _ _ _ _ ⟨_,rfl,_⟩ _|rintro _ _ _ _ _ ⟨_,_,_,_,rfl,rfl,_,_⟩ _|intro _ _ _ _ _ _ _))|(refine sx ?_;intro _ _)|((with_reducible refine g_awp ?_);simp only [g0,g1,g2]))
  all_goals first
    | (refine pf ?_; rintro rfl; first | contradiction | (simp_all; done))
    | (refine pt ?_; cases a; cases b; simp_all; done)
theorem s_spec_SameSpan {h : AH} {a b : Span} {v v' : AV} {F F' : List Nat} (r : SlRep h v a.attrs F) (r' : SlRep h v' b.attrs F') : RCalls Tryz.prog n_spec_SameSpan [.agg (a.cs v), .agg (b.cs v')] h (.bool (bp (a = b))) := by
  refine reader (c_spec_SameSpan _ _) (by simp only [old]) ?_
  unfold p_spec_SameSpan
  have hsm := r.small
  (repeat' first|refine vs ?_|(refine br ?_ ?_<;>intro _<;>try(exfalso;first|omega|contradiction))|((with_reducible refine g_idx ?_);((first|refine ix ?_|refine ixi ?_|(refine ixg ?_;intro _ _)|(refine ixgi ?_;intro _ _));first|rintro _ _ _ _ _ ⟨rfl,rfl⟩ _|rintro _ _ _ _ _ ⟨_,rfl,_⟩ _|rintro _ _ _ _ _ ⟨_,_,_,_,rfl,rfl,_,_⟩ _|intro _ _ _ _ _ _ _))|(refine sx ?_;intro _ _)|((with_reducible refine g_awp ?_);simp only [g0,g1,g2]))
  all_goals first
    | (refine pf ?_; rintro rfl; first | contradiction | omega | (simp_all; done))
    | skip
  refine aw_upto a.attrs.length (fun i vs h1 => vs = [.int .i64 (i : Int)] ∧ i ≤ a.attrs.length ∧ Ext ((h.push ⟨a.cs v, 0, 0⟩).push ⟨b.cs v', 0, 0⟩) h1 ∧ EqUp a.attrs b.attrs i) ⟨rfl, Nat.zero_le _, ext_auto, eu0⟩ ?_
  rintro i vs h1 _ ⟨rfl, hi, e1, hu⟩
  simp only [g0]
  refine vs ?_
  refine br (fun hlt => ?_) (fun hge => ?_)
  · obtain ⟨x, hx, -, -⟩ := drop_step (show i < a.attrs.length by omega)
    obtain ⟨y, hy, -, -⟩ := drop_step (show i < b.attrs.length by omega)
    (repeat' first|refine vs ?_|(refine br ?_ ?_<;>intro _<;>try(exfalso;first|omega|contradiction))|((with_reducible refine g_idx ?_);((first|refine ix ?_|refine ixi ?_|(refine ixg ?_;intro _ _)|(refine ixgi ?_;intro _ _));first|rintro _ _ _ _ _ ⟨rfl,rfl⟩ _|rintro _ _ _ _ _ ⟨_,rfl,_⟩ _|rintro _ _ _ _ _ ⟨_,_,_,_,rfl,rfl,_,_⟩ _|intro _ _ _ _ _ _ _))|(refine sx ?_;intro _ _)|((with_reducible refine g_awp ?_);simp only [g0,g1,g2]))
    refine w_eqsA (fun e => ?_) (fun e => ?_)
    · (repeat' first|refine vs ?_|(refine br ?_ ?_<;>intro _<;>try(exfalso;first|omega|contradiction))|((with_reducible refine g_idx ?_);((first|refine ix ?_|refine ixi ?_|(refine ixg ?_;intro _ _)|(refine ixgi ?_;intro _ _));first|rintro _ _ _ _ _ ⟨rfl,rfl⟩ _|rintro _ _ _ _ _ ⟨_,rfl,_⟩ _|rintro _ _ _ _ _ ⟨_,_,_,_,rfl,rfl,_,_⟩ _|intro _ _ _ _ _ _ _))|(refine sx ?_;intro _ _)|((with_reducible refine g_awp ?_);simp only [g0,g1,g2]))
      refine pf ?_
      rintro rfl
      exact euNot hx hy e rfl
    · (repeat' first|refine vs ?_|(refine br ?_ ?_<;>intro _<;>try(exfalso;first|omega|contradiction))|((with_reducible refine g_idx ?_);((first|refine ix ?_|refine ixi ?_|(refine ixg ?_;intro _ _)|(refine ixgi ?_;intro _ _));first|rintro _ _ _ _ _ ⟨rfl,rfl⟩ _|rintro _ _ _ _ _ ⟨_,rfl,_⟩ _|rintro _ _ _ _ _ ⟨_,_,_,_,rfl,rfl,_,_⟩ _|intro _ _ _ _ _ _ _))|(refine sx ?_;intro _ _)|((with_reducible refine g_awp ?_);simp only [g0,g1,g2]))
      exact ⟨by omega, rfl, by omega, ext_auto, euS hu hx hy e⟩
  · (repeat' first|refine vs ?_|(refine br ?_ ?_<;>intro _<;>try(exfalso;first|omega|contradiction))|((with_reducible refine g_idx ?_);((first|refine ix ?_|refine ixi ?_|(refine ixg ?_;intro _ _)|(refine ixgi ?_;intro _ _));first|rintro _ _ _ _ _ ⟨rfl,rfl⟩ _|rintro _ _ _ _ _ ⟨_,rfl,_⟩ _|rintro _ _ _ _ _ ⟨_,_,_,_,rfl,rfl,_,_⟩ _|intro _ _ _ _ _ _ _))|(refine sx ?_;intro _ _)|((with_reducible refine g_awp ?_);simp only [g0,g1,g2]))
    have e : a.attrs = b.attrs := euEnd (by rw [show i = a.attrs.length by omega] at hu; exact hu) (by omega)
    refine pt ?_
    cases a; cases b; simp_all
end Go.Proofs.YtekfdoknfcedpaaGreat
end
section
/- Rules: copies, comparisons, sizes; what is the same. -/
set_option linter.unusedSimpArgs false
set_option linter.unusedVariables false
set_option maxHeartbeats 1000000
namespace Go.Proofs.YtekfdoknfcedpaaGreat
open Go Go.Ab
section
/- laws.toPol -/
def p_laws_toPol (x0 : AV) : Prog := .op (.box x0) fun a=>.op (.alloc z5_5ed) fun b=>.op (.alloc z5_5ed) fun c=>Lg 0 a fun d=>Sg 0 c d fun _=>Lg 1 a fun d=>Sg 1 c d fun _=>Lg 2 a fun d=>Sg 2 c d fun _=>Lg 3 a fun d=>Sg 3 c d fun _=>Lg 4 a fun a=>Cl n_laws_toPolS [a] fun a=>Sg 4 c a fun _=>Ld 5 c fun a=>.op (.st 5 b a) fun _=>.fin [.cn 5 b]
theorem c_laws_toPol (x0 : AV) : CC Tryz.prog n_laws_toPol [x0] (p_laws_toPol x0) := cc Tryz.func111
/- laws.eqPol -/
def p_laws_eqPol (x0 x1 : AV) : Prog := .op (.box x0) fun a=>.op (.box x1) fun b=>Lg 0 a fun c=>Lg 0 b fun d=>Bn .neq c d fun c=>.ite c (.fin [.val (.bool false)]) (Lg 1 a fun c=>Lg 1 b fun d=>Bn .neq c d fun c=>.ite c (.fin [.val (.bool false)]) (Lg 2 a fun c=>Lg 2 b fun d=>.op (.bin 1 .neq c d) fun c=>.ite c (.fin [.val (.bool false)]) (Lg 3 a fun c=>Lg 3 b fun d=>.op (.bin 1 .neq c d) fun c=>.ite c (.fin [.val (.bool false)]) (Lg 4 a fun a=>Lg 4 b fun b=>Cl n_laws_eqPolS [a, b] fun a=>.op (.una .not a) fun a=>.ite a (.fin [.val (.bool false)]) (.fin [.val (.bool true)])))))
theorem c_laws_eqPol (x0 x1 : AV) : CC Tryz.prog n_laws_eqPol [x0, x1] (p_laws_eqPol x0 x1) := cc Tryz.func135
/- laws.szPol -/
def p_laws_szPol (x0 x1 : AV) : Prog := .op (.box x0) fun a=>Lg 2 a fun b=>Ln 1 b fun b=>Bn .sub x1 b fun b=>Bn .lss b (.int .i64 0) fun c=>.ite c (.fin [.val (.int .i64 (-1))]) (Lg 3 a fun c=>Ln 1 c fun c=>Bn .sub b c fun b=>Bn .lss b (.int .i64 0) fun c=>.ite c (.fin [.val (.int .i64 (-1))]) (Lg 4 a fun a=>Cl n_laws_szPolS [a, b] fun a=>Bn .lss a (.int .i64 0) fun b=>.ite b (.fin [.val (.int .i64 (-1))]) (.fin [.val a])))
theorem c_laws_szPol (x0 x1 : AV) : CC Tryz.prog n_laws_szPol [x0, x1] (p_laws_szPol x0 x1) := cc Tryz.func85
/- laws.toPolS -/
def p_laws_toPolS (x0 : AV) : Prog := Ln 0 x0 fun a=>.op (.mksl 5 72 z5_5ed a a) fun a=>.loop [.int .i64 0] (fun b=>Ln 0 x0 fun c=>Bn .lss (g b 0) c fun c=>.ite c (Ix 5 x0 (g b 0) fun c=>Ld 5 c fun c=>Cl n_laws_toPol [c] fun c=>Ix 5 a (g b 0) fun a=>.op (.st 5 a c) fun _=>Bn .add (g b 0) (.int .i64 1) fun a=>.leaf 0 [a]) (.leaf 2 [g b 0])) fun b c=>tsel b 1 (.leaf 1 c) (tsel b 2 (.fin [.val a]) .bad)
theorem c_laws_toPolS (x0 : AV) : CC Tryz.prog n_laws_toPolS [x0] (p_laws_toPolS x0) := cc Tryz.func190 [0, 3, 4] (fun _ => [])
/- laws.eqPolS -/
def p_laws_eqPolS (x0 x1 : AV) : Prog := Ln 0 x0 fun a=>Ln 0 x1 fun b=>Bn .neq a b fun a=>.ite a (.fin [.val (.bool false)]) (.loop [.int .i64 0] (fun a=>Ln 0 x0 fun b=>Bn .lss (g a 0) b fun b=>.ite b (Ix 5 x0 (g a 0) fun b=>Ld 5 b fun b=>Ix 5 x1 (g a 0) fun c=>Ld 5 c fun c=>Cl n_laws_eqPol [b, c] fun b=>.op (.una .not b) fun b=>.ite b (.fin [.val (.bool false)]) (Bn .add (g a 0) (.int .i64 1) fun a=>.leaf 0 [a])) (.leaf 2 [g a 0])) fun a b=>tsel a 1 (.leaf 1 b) (tsel a 2 (.fin [.val (.bool true)]) .bad))
theorem c_laws_eqPolS (x0 x1 : AV) : CC Tryz.prog n_laws_eqPolS [x0, x1] (p_laws_eqPolS x0 x1) := cc Tryz.func224 [0, 1, 5] (fun r => if r = 6 then [(0, []), (1, []), (2, []), (3, []), (4, []), (5, []), (6, []), (7, []), (8, []), (9, [])] else [])
/- laws.szPolS -/
def p_laws_szPolS (x0 x1 : AV) : Prog := Ln 0 x0 fun a=>Bn .sub x1 a fun a=>Bn .lss a (.int .i64 0) fun b=>.ite b (.fin [.val (.int .i64 (-1))]) (.loop [a, .int .i64 0] (fun a=>Ln 0 x0 fun b=>Bn .lss (g a 1) b fun b=>.ite b (Ix 5 x0 (g a 1) fun b=>Ld 5 b fun b=>Cl n_laws_szPol [b, g a 0] fun b=>Bn .lss b (.int .i64 0) fun c=>.ite c (.fin [.val (.int .i64 (-1))]) (Bn .add (g a 1) (.int .i64 1) fun a=>.leaf 0 [b, a])) (.leaf 2 [g a 0, g a 1])) fun a b=>tsel a 1 (.leaf 1 b) (tsel a 2 (.fin [.val (g b 0)]) .bad))
theorem c_laws_szPolS (x0 x1 : AV) : CC Tryz.prog n_laws_szPolS [x0, x1] (p_laws_szPolS x0 x1) := cc Tryz.func167 [0, 1, 5] (fun _ => [])
end
theorem pol_lt {x y : Pol} (h : y ∈ x.l) : SizeOf.sizeOf y < SizeOf.sizeOf x := by
  cases x with
  | mk k n s t l =>
    have := List.sizeOf_lt_of_mem (show y ∈ l from h)
    simp only [Pol.mk.sizeOf_spec]; omega
theorem pol_ind {p : Pol → Prop} (step : ∀ x, (∀ y ∈ x.l, p y) → p x) : ∀ x, p x := fun x =>
  step x fun y hy => pol_ind step y
termination_by x => SizeOf.sizeOf x
decreasing_by exact pol_lt hy

theorem toPols {xs : List Pol} (hc : ∀ x ∈ xs, CopyX Pol Tryz.prog n_laws_toPol x) (hs : xs.length + szs xs ≤ 1048576) : CopyL Tryz.prog n_laws_toPolS xs := by
  intro v F h r
  refine c_laws_toPolS _ (toSx_spec rfl rfl rfl hc r ?_)
  omega
theorem s_laws_toPol (x : Pol) : Sz.sz x ≤ 1048576 → CopyX Pol Tryz.prog n_laws_toPol x := by
  refine pol_ind (p := fun x => Sz.sz x ≤ 1048576 → CopyX Pol Tryz.prog n_laws_toPol x) ?_ x
  intro x ih hs cs F h r
  rw [Pol.sz_eq] at hs
  rw [Pol.rep_iff] at r
  obtain ⟨v0, rfl, r0⟩ := r
  have hc := toPols (xs := x.l) (fun y hy => ih y hy (by have := szs_mem hy; omega)) (by omega)
  refine c_laws_toPol _ ?_
  unfold p_laws_toPol
  have s_laws_toPolS := hc
  (repeat' first|refine vs ?_|(refine br ?_ ?_<;>intro _<;>try(exfalso;first|omega|contradiction))|((with_reducible refine g_callf n_laws_toPolS ?_);(refine aw_call (s_laws_toPolS _ _ _ slr_auto) ?_; rintro _ _ ⟨e_, _, _, _⟩; have n_ := e_.1; (try simp only [push_n, upd_n] at n_)))|((with_reducible refine g_idx ?_);((first|refine ix ?_|refine ixi ?_|(refine ixg ?_;intro _ _)|(refine ixgi ?_;intro _ _));first|rintro _ _ _ _ _ ⟨rfl,rfl⟩ _|rintro _ _ _ _ _ ⟨_,rfl,_⟩ _|rintro _ _ _ _ _ ⟨_,_,_,_,rfl,rfl,_,_⟩ _|intro _ _ _ _ _ _ _))|(refine sx ?_;intro _ _)|((with_reducible refine g_awp ?_);simp only [g0,g1,g2]))
  exact ⟨rfl, _, rfl, ext_auto, _, _, rfl, Pol.rep_iff.2 ⟨_, rfl, slr_auto⟩, ol_auto⟩
theorem s_laws_toPolS (xs : List Pol) (hs : xs.length + szs xs ≤ 1048576) : CopyL Tryz.prog n_laws_toPolS xs := toPols (fun x hx => s_laws_toPol x (by have := szs_mem hx; omega)) hs

theorem eqPols {xs : List Pol} (hc : ∀ x ∈ xs, EqX Pol Tryz.prog n_laws_eqPol x) (v v' : AV) (F F' : List Nat) (h : AH) (r : SlRep h v xs F) (r' : SlRep h v' xs F') : RCalls Tryz.prog n_laws_eqPolS [v, v'] h (.bool true) :=
  reader (c_laws_eqPolS _ _) (by simp only [old]) (eqSx_spec rfl hc r r')
theorem s_laws_eqPol : EqC Pol Tryz.prog n_laws_eqPol := by
  refine pol_ind ?_
  intro x ih cs cs' F F' h r r'
  rw [Pol.rep_iff] at r r'
  obtain ⟨v0, rfl, r0⟩ := r
  obtain ⟨u0, rfl, q0⟩ := r'
  have s_laws_eqPolS := eqPols ih
  refine reader (c_laws_eqPol _ _) (by simp only [old]) ?_
  unfold p_laws_eqPol
  (repeat' first|refine vs ?_|(refine br ?_ ?_<;>intro _<;>try(exfalso;first|omega|contradiction))|((with_reducible refine g_callf n_laws_eqPolS ?_);refine aw_rcall (s_laws_eqPolS _ _ _ _ _ slr_auto slr_auto) ?_)|((with_reducible refine g_idx ?_);((first|refine ix ?_|refine ixi ?_|(refine ixg ?_;intro _ _)|(refine ixgi ?_;intro _ _));first|rintro _ _ _ _ _ ⟨rfl,rfl⟩ _|rintro _ _ _ _ _ ⟨_,rfl,_⟩ _|rintro _ _ _ _ _ ⟨_,_,_,_,rfl,rfl,_,_⟩ _|intro _ _ _ _ _ _ _))|(refine sx ?_;intro _ _)|((with_reducible refine g_awp ?_);simp only [g0,g1,g2]))
  exact pb rfl
theorem s_laws_eqPolS : EqS Pol Tryz.prog n_laws_eqPolS := fun xs v v' F F' h r r' => eqPols (fun x _ => s_laws_eqPol x) v v' F F' h r r'

theorem szPols {xs : List Pol} (hc : ∀ x ∈ xs, SzX Pol Tryz.prog n_laws_szPol x) (ok : ∀ x ∈ xs, Cel.ok x) (v : AV) (F : List Nat) (b : Int) (h : AH) (r : SlRep h v xs F) (h0 : 0 ≤ b) (h1 : b ≤ 1048576) : RCalls Tryz.prog n_laws_szPolS [v, .int .i64 b] h (.int .i64 (szr b (xs.length + szs xs))) :=
  reader (c_laws_szPolS _ _) (by simp only [old]) (szSx_spec rfl hc ok r h0 h1)
theorem s_laws_szPol : SzC Pol Tryz.prog n_laws_szPol := by
  refine pol_ind ?_
  intro x ih ok cs F b h r h0 h1
  have hS := Pol.sz_eq x
  rw [Pol.rep_iff] at r
  obtain ⟨v0, rfl, r0⟩ := r
  have okl : ∀ y ∈ x.l, Cel.ok y := by
    cases x with
    | mk k n s t l => exact Pol.oks_iff.1 ok.2.2.2.2
  have ok1 : x.key.size ≤ 9223372036854775807 := by cases x with
    | mk k n s t l => exact ok.2.2.1
  have ok2 : x.text.size ≤ 9223372036854775807 := by cases x with
    | mk k n s t l => exact ok.2.2.2.1
  have s_laws_szPolS := szPols ih okl
  refine reader (c_laws_szPol _ _) (by simp only [old]) ?_
  unfold p_laws_szPol
  (repeat' first|refine vs ?_|(refine br ?_ ?_<;>intro _<;>try(exfalso;first|omega|contradiction))|((with_reducible refine g_callf n_laws_szPolS ?_);(refine aw_sz (s_laws_szPolS _ _ _ _ slr_auto om_auto om_auto) (fun _ => ?_) (fun _ => ?_)))|((with_reducible refine g_idx ?_);((first|refine ix ?_|refine ixi ?_|(refine ixg ?_;intro _ _)|(refine ixgi ?_;intro _ _));first|rintro _ _ _ _ _ ⟨rfl,rfl⟩ _|rintro _ _ _ _ _ ⟨_,rfl,_⟩ _|rintro _ _ _ _ _ ⟨_,_,_,_,rfl,rfl,_,_⟩ _|intro _ _ _ _ _ _ _))|(refine sx ?_;intro _ _)|((with_reducible refine g_awp ?_);simp only [g0,g1,g2]))
  all_goals (refine pi ?_; unfold szr; split <;> omega)
theorem s_laws_szPolS : SzL Pol Tryz.prog n_laws_szPolS := fun xs ok v F b h r h0 h1 => szPols (fun x _ => s_laws_szPol x) ok v F b h r h0 h1
end Go.Proofs.YtekfdoknfcedpaaGreat
end
section
/- Trails and items. -/
set_option linter.unusedSimpArgs false
set_option linter.unusedVariables false
namespace Go.Proofs.YtekfdoknfcedpaaGreat
open Go Go.Ab
section
/- impl.BytesOf -/
def p_impl_BytesOf (x0 : AV) : Prog := .op (.box x0) fun a=>Lg 3 a fun a=>Cl n_impl_TotalOf [a] fun a=>.fin [.val a]
theorem c_impl_BytesOf (x0 : AV) : CC Tryz.prog n_impl_BytesOf [x0] (p_impl_BytesOf x0) := cc Tryz.func222
/- spec.BytesOf -/
def p_spec_BytesOf (x0 : AV) : Prog := .op (.box x0) fun a=>Lg 3 a fun a=>Cl n_spec_TotalOf [a] fun a=>.fin [.val a]
theorem c_spec_BytesOf (x0 : AV) : CC Tryz.prog n_spec_BytesOf [x0] (p_spec_BytesOf x0) := cc Tryz.func176
/- impl.TrailAt -/
/- spec.TrailAt -/
/- impl.TrailAt$1 -/
/- slices.IndexFunc[[]impl.Trail,impl.Trail] -/
/- impl.ItemOk -/
def p_impl_ItemOk (x0 : AV) : Prog := .op (.box x0) fun a=>Lg 0 a fun b=>Bn .geq b (.int .i64 1) fun b=>.gop b true (.fad 1 a) fun a=>.gop b true (.ldn 6 a) fun a=>.gop b true (.call n_impl_SpanOk [a]) fun a=>Pk b a (.bool false) fun a=>.fin [.val a]
theorem c_impl_ItemOk (x0 : AV) : CC Tryz.prog n_impl_ItemOk [x0] (p_impl_ItemOk x0) := cc Tryz.func272
/- spec.ItemOk -/
def p_spec_ItemOk (x0 : AV) : Prog := .op (.box x0) fun a=>Lg 0 a fun b=>Bn .geq b (.int .i64 1) fun b=>.gop b true (.fad 1 a) fun a=>.gop b true (.ldn 6 a) fun a=>.gop b true (.call n_spec_SpanOk [a]) fun a=>Pk b a (.bool false) fun a=>.fin [.val a]
theorem c_spec_ItemOk (x0 : AV) : CC Tryz.prog n_spec_ItemOk [x0] (p_spec_ItemOk x0) := cc Tryz.func104
/- impl.SameItem -/
def p_impl_SameItem (x0 x1 : AV) : Prog := .op (.box x0) fun a=>.op (.box x1) fun b=>Lg 0 a fun c=>Lg 0 b fun d=>Bn .eql c d fun c=>.gop c true (.fad 1 a) fun a=>.gop c true (.ldn 6 a) fun a=>.gop c true (.fad 1 b) fun b=>.gop c true (.ldn 6 b) fun b=>.gop c true (.call n_impl_SameSpan [a, b]) fun a=>Pk c a (.bool false) fun a=>.fin [.val a]
theorem c_impl_SameItem (x0 x1 : AV) : CC Tryz.prog n_impl_SameItem [x0, x1] (p_impl_SameItem x0 x1) := cc Tryz.func319
end
theorem s_impl_BytesOf {h : AH} {t : Trail} {v : AV} {F : List Nat} (hs : Sz.sz t ≤ 67108864) (r : SlRep h v t.spans F) : RCalls Tryz.prog n_impl_BytesOf [.agg (t.cs v)] h (.int .i64 (sumI spanSize t.spans)) := by
  refine reader (c_impl_BytesOf _) (by simp only [old]) ?_
  unfold p_impl_BytesOf
  (repeat' first|refine vs ?_|(refine br ?_ ?_<;>intro _<;>try(exfalso;first|omega|contradiction))|((with_reducible refine g_callf n_impl_TotalOf ?_);refine aw_rcall (s_impl_TotalOf hs slr_auto) ?_)|((with_reducible refine g_idx ?_);((first|refine ix ?_|refine ixi ?_|(refine ixg ?_;intro _ _)|(refine ixgi ?_;intro _ _));first|rintro _ _ _ _ _ ⟨rfl,rfl⟩ _|rintro _ _ _ _ _ ⟨_,rfl,_⟩ _|rintro _ _ _ _ _ ⟨_,_,_,_,rfl,rfl,_,_⟩ _|intro _ _ _ _ _ _ _))|(refine sx ?_;intro _ _)|((with_reducible refine g_awp ?_);simp only [g0,g1,g2]))
  exact pi rfl
theorem s_spec_BytesOf {h : AH} {t : Trail} {v : AV} {F : List Nat} (hs : Sz.sz t ≤ 67108864) (r : SlRep h v t.spans F) : RCalls Tryz.prog n_spec_BytesOf [.agg (t.cs v)] h (.int .i64 (sumI spanSize t.spans)) := by
  refine reader (c_spec_BytesOf _) (by simp only [old]) ?_
  unfold p_spec_BytesOf
  (repeat' first|refine vs ?_|(refine br ?_ ?_<;>intro _<;>try(exfalso;first|omega|contradiction))|((with_reducible refine g_callf n_spec_TotalOf ?_);refine aw_rcall (s_spec_TotalOf hs slr_auto) ?_)|((with_reducible refine g_idx ?_);((first|refine ix ?_|refine ixi ?_|(refine ixg ?_;intro _ _)|(refine ixgi ?_;intro _ _));first|rintro _ _ _ _ _ ⟨rfl,rfl⟩ _|rintro _ _ _ _ _ ⟨_,rfl,_⟩ _|rintro _ _ _ _ _ ⟨_,_,_,_,rfl,rfl,_,_⟩ _|intro _ _ _ _ _ _ _))|(refine sx ?_;intro _ _)|((with_reducible refine g_awp ?_);simp only [g0,g1,g2]))
  exact pi rfl

def itemOk (x : Itm) : Prop := 1 ≤ x.stamp ∧ spanOk x.s
theorem s_impl_ItemOk {h : AH} {x : Itm} {v : AV} {F : List Nat} (ok : Cel.ok x.s) (hs : Sz.sz x ≤ 67108864) (r : SlRep h v x.s.attrs F) : RCalls Tryz.prog n_impl_ItemOk [.agg (x.cs v)] h (.bool (bp (itemOk x))) := by
  refine reader (c_impl_ItemOk _) (by simp only [old]) ?_
  unfold p_impl_ItemOk
  (repeat' first|refine vs ?_|(refine br ?_ ?_<;>intro _<;>try(exfalso;first|omega|contradiction))|((with_reducible refine g_callf n_impl_SpanOk ?_);(refine aw_rcall_b (s_impl_SpanOk ok hs slr_auto) ?_ ?_ <;> intro hn <;> first | replace hn := bp_true hn | replace hn := bp_false hn))|((with_reducible refine g_idx ?_);((first|refine ix ?_|refine ixi ?_|(refine ixg ?_;intro _ _)|(refine ixgi ?_;intro _ _));first|rintro _ _ _ _ _ ⟨rfl,rfl⟩ _|rintro _ _ _ _ _ ⟨_,rfl,_⟩ _|rintro _ _ _ _ _ ⟨_,_,_,_,rfl,rfl,_,_⟩ _|intro _ _ _ _ _ _ _))|(refine sx ?_;intro _ _)|((with_reducible refine g_awp ?_);simp only [g0,g1,g2]))
  all_goals first
    | exact pt ⟨by omega, by assumption⟩
    | exact pf fun k => by obtain ⟨a1, a2⟩ := k; first | omega | contradiction
theorem s_spec_ItemOk {h : AH} {x : Itm} {v : AV} {F : List Nat} (ok : Cel.ok x.s) (hs : Sz.sz x ≤ 67108864) (r : SlRep h v x.s.attrs F) : RCalls Tryz.prog n_spec_ItemOk [.agg (x.cs v)] h (.bool (bp (itemOk x))) := by
  refine reader (c_spec_ItemOk _) (by simp only [old]) ?_
  unfold p_spec_ItemOk
  (repeat' first|refine vs ?_|(refine br ?_ ?_<;>intro _<;>try(exfalso;first|omega|contradiction))|((with_reducible refine g_callf n_spec_SpanOk ?_);(refine aw_rcall_b (s_spec_SpanOk ok hs slr_auto) ?_ ?_ <;> intro hn <;> first | replace hn := bp_true hn | replace hn := bp_false hn))|((with_reducible refine g_idx ?_);((first|refine ix ?_|refine ixi ?_|(refine ixg ?_;intro _ _)|(refine ixgi ?_;intro _ _));first|rintro _ _ _ _ _ ⟨rfl,rfl⟩ _|rintro _ _ _ _ _ ⟨_,rfl,_⟩ _|rintro _ _ _ _ _ ⟨_,_,_,_,rfl,rfl,_,_⟩ _|intro _ _ _ _ _ _ _))|(refine sx ?_;intro _ _)|((with_reducible refine g_awp ?_);simp only [g0,g1,g2]))
  all_goals first
    | exact pt ⟨by omega, by assumption⟩
    | exact pf fun k => by obtain ⟨a1, a2⟩ := k; first | omega | contradiction
theorem s_impl_SameItem {h : AH} {a b : Itm} {v v' : AV} {F F' : List Nat} (r : SlRep h v a.s.attrs F) (r' : SlRep h v' b.s.attrs F') : RCalls Tryz.prog n_impl_SameItem [.agg (a.cs v), .agg (b.cs v')] h (.bool (bp (a = b))) := by
  refine reader (c_impl_SameItem _ _) (by simp only [old]) ?_
  unfold p_impl_SameItem
  (repeat' first|refine vs ?_|(refine br ?_ ?_<;>intro _<;>try(exfalso;first|omega|contradiction))|((with_reducible refine g_callf n_impl_SameSpan ?_);(refine aw_rcall_b (s_impl_SameSpan (a := a.s) (b := b.s) slr_auto slr_auto) ?_ ?_ <;> intro hn <;> first | replace hn := bp_true hn | replace hn := bp_false hn))|((with_reducible refine g_idx ?_);((first|refine ix ?_|refine ixi ?_|(refine ixg ?_;intro _ _)|(refine ixgi ?_;intro _ _));first|rintro _ _ _ _ _ ⟨rfl,rfl⟩ _|rintro _ _ _ _ _ ⟨_,rfl,_⟩ _|rintro _ _ _ _ _ ⟨_,_,_,_,rfl,rfl,_,_⟩ _|intro _ _ _ _ _ _ _))|(refine sx ?_;intro _ _)|((with_reducible refine g_awp ?_);simp only [g0,g1,g2]))
  all_goals first
    | (refine pf ?_; rintro rfl; first | contradiction | (simp_all; done))
    | (refine pt ?_; cases a; cases b; simp_all; done)
end Go.Proofs.YtekfdoknfcedpaaGreat
end
section
/- Deeds and tasks: the small functions. -/
set_option linter.unusedSimpArgs false
set_option linter.unusedVariables false
set_option maxHeartbeats 1000000
namespace Go.Proofs.YtekfdoknfcedpaaGreat
open Go Go.Ab
section
/- impl.DeedOk -/
def p_impl_DeedOk (x0 : AV) : Prog := .op (.box x0) fun a=>Lg 0 a fun b=>Cl n_impl_within [b, .int .i64 1, .int .i64 4] fun b=>.op (.una .not b) fun b=>Gf b false 17 a fun c=>.gop b false (.bin 0 .lss c (.int .i64 0)) fun c=>Pk b (.bool true) c fun b=>Gf b false 13 a fun c=>Gf b false 14 a fun d=>Gf b false 15 a fun e=>Gf b false 16 a fun f=>.gop b false (.mnx true [c, d, e, f]) fun c=>.gop b false (.bin 0 .lss c (.int .i64 0)) fun c=>Pk b (.bool true) c fun b=>.ite b (.fin [.val (.bool false)]) (Lg 0 a fun b=>Bn .eql b (.int .i64 1) fun b=>Gf b true 18 a fun c=>.gop b true (.bin 0 .neq c (.int .i64 (-1))) fun c=>Pk b c (.bool false) fun b=>.scope (.ite b (Lg 10 a fun a=>Cl n_impl_within [a, .int .i64 1, .int .i64 5] fun a=>.op (.una .not a) fun a=>.ite a (.fin [.val (.bool false)]) (.leaf 0 [])) (Lg 10 a fun a=>Bn .neq a (.int .i64 0) fun a=>.ite a (.fin [.val (.bool false)]) (.leaf 0 []))) (fun _=>Lg 18 a fun b=>.op (.bin 0 .eql b (.int .i64 (-1))) fun b=>Gf b false 18 a fun c=>Gf b false 17 a fun d=>.gop b false (.bin 0 .geq c d) fun c=>Pk b (.bool true) c fun b=>Gf b true 19 a fun c=>.gop b true (.bin 0 .eql c (.int .i64 (-1))) fun c=>.gop b true (.mv c) fun c=>Gf c false 18 a fun d=>.gop c false (.bin 0 .neq d (.int .i64 (-1))) fun d=>.gop c false (.mv d) fun d=>Gf d true 19 a fun e=>Gf d true 18 a fun a=>.gop d true (.bin 0 .geq e a) fun a=>.gop c false (.pick d a (.bool false)) fun a=>.gop b true (.pick c (.bool true) a) fun a=>Pk b a (.bool false) fun a=>.fin [.val a]) fun a b=>tsel a 1 (.leaf 1 b) .bad)
theorem c_impl_DeedOk (x0 : AV) : CC Tryz.prog n_impl_DeedOk [x0] (p_impl_DeedOk x0) := cc Tryz.func203 [1] (fun _ => [])
/- spec.DeedOk -/
def p_spec_DeedOk (x0 : AV) : Prog := .op (.box x0) fun a=>Lg 0 a fun b=>Cl n_spec_l1In [b, .int .i64 1, .int .i64 4] fun b=>.op (.una .not b) fun b=>Gf b false 17 a fun c=>.gop b false (.bin 0 .lss c (.int .i64 0)) fun c=>Pk b (.bool true) c fun b=>Gf b false 13 a fun c=>.gop b false (.bin 0 .lss c (.int .i64 0)) fun c=>Pk b (.bool true) c fun b=>Gf b false 14 a fun c=>.gop b false (.bin 0 .lss c (.int .i64 0)) fun c=>Pk b (.bool true) c fun b=>Gf b false 15 a fun c=>.gop b false (.bin 0 .lss c (.int .i64 0)) fun c=>Pk b (.bool true) c fun b=>Gf b false 16 a fun c=>.gop b false (.bin 0 .lss c (.int .i64 0)) fun c=>Pk b (.bool true) c fun b=>.ite b (.fin [.val (.bool false)]) (Lg 18 a fun b=>.op (.bin 0 .neq b (.int .i64 (-1))) fun b=>Gf b true 18 a fun c=>Gf b true 17 a fun d=>.gop b true (.bin 0 .lss c d) fun c=>Pk b c (.bool false) fun b=>Gf b false 19 a fun c=>.gop b false (.bin 0 .neq c (.int .i64 (-1))) fun c=>.gop b false (.mv c) fun c=>Gf c true 18 a fun d=>.gop c true (.bin 0 .eql d (.int .i64 (-1))) fun d=>.gop c true (.mv d) fun d=>Gf d false 19 a fun e=>Gf d false 18 a fun f=>.gop d false (.bin 0 .lss e f) fun e=>.gop c true (.pick d (.bool true) e) fun d=>.gop b false (.pick c d (.bool false)) fun c=>Pk b (.bool true) c fun b=>.ite b (.fin [.val (.bool false)]) (Lg 0 a fun b=>Bn .eql b (.int .i64 1) fun b=>Gf b true 18 a fun c=>.gop b true (.bin 0 .neq c (.int .i64 (-1))) fun c=>Pk b c (.bool false) fun b=>.ite b (Lg 10 a fun a=>Cl n_spec_l1In [a, .int .i64 1, .int .i64 5] fun a=>.fin [.val a]) (Lg 10 a fun a=>Bn .eql a (.int .i64 0) fun a=>.fin [.val a])))
theorem c_spec_DeedOk (x0 : AV) : CC Tryz.prog n_spec_DeedOk [x0] (p_spec_DeedOk x0) := cc Tryz.func105
/- impl.HoldsRule -/
def p_impl_HoldsRule (x0 : AV) : Prog := .op (.box x0) fun a=>Lg 0 a fun b=>Bn .eql b (.int .i64 2) fun b=>Gf b true 1 a fun a=>.gop b true (.bin 0 .eql a (.int .i64 2)) fun a=>Pk b a (.bool false) fun a=>.fin [.val a]
theorem c_impl_HoldsRule (x0 : AV) : CC Tryz.prog n_impl_HoldsRule [x0] (p_impl_HoldsRule x0) := cc Tryz.func207
/- spec.HoldsRule -/
def p_spec_HoldsRule (x0 : AV) : Prog := .op (.box x0) fun a=>Lg 0 a fun b=>Bn .eql b (.int .i64 2) fun b=>Gf b true 1 a fun a=>.gop b true (.bin 0 .eql a (.int .i64 2)) fun a=>Pk b a (.bool false) fun a=>.fin [.val a]
theorem c_spec_HoldsRule (x0 : AV) : CC Tryz.prog n_spec_HoldsRule [x0] (p_spec_HoldsRule x0) := cc Tryz.func183
/- impl.Deadline -/
/- spec.Deadline -/
end
def deedOk (d : Deed) : Prop := (1 ≤ d.op ∧ d.op ≤ 4) ∧ 0 ≤ d.inv ∧ 0 ≤ d.took ∧ 0 ≤ d.n ∧ 0 ≤ d.forgot ∧ 0 ≤ d.now ∧ ((d.op = 1 ∧ d.lin ≠ -1 ∧ 1 ≤ d.code ∧ d.code ≤ 5) ∨ (¬ (d.op = 1 ∧ d.lin ≠ -1) ∧ d.code = 0)) ∧ (d.lin = -1 ∨ d.inv ≤ d.lin) ∧ (d.res = -1 ∨ (d.lin ≠ -1 ∧ d.lin ≤ d.res))
theorem w_min4 {P : Program} {h : AH} {Q : Nat → List AV → AH → Prop} {k : AV → Prog} {a b c d : Int} (hk : (k (.int .i64 (min (min (min a b) c) d))).awp P h Q) : (Prog.op (.mnx true [.int .i64 a, .int .i64 b, .int .i64 c, .int .i64 d]) k).awp P h Q := by
  simp only [Prog.awp, AOp.go, amnx, amnxGo, if_true]
  have e : ∀ x y : Int, (if y < x then y else x) = min x y := fun x y => by split <;> omega
  simp only [e]
  exact hk
theorem s_impl_DeedOk {h : AH} {d : Deed} {v : AV} : RCalls Tryz.prog n_impl_DeedOk [.agg (d.cs v)] h (.bool (bp (deedOk d))) := by
  refine reader (c_impl_DeedOk _) (by simp only [old]) ?_
  unfold p_impl_DeedOk
  (repeat' first|refine vs ?_|(refine br ?_ ?_<;>intro _<;>try(exfalso;first|omega|contradiction))|((with_reducible refine g_callf n_impl_within ?_);(refine aw_rcall_b s_impl_within ?_ ?_ <;> intro hb <;> first | replace hb := inB_t hb | replace hb := inB_f hb))|((with_reducible refine g_idx ?_);((first|refine ix ?_|refine ixi ?_|(refine ixg ?_;intro _ _)|(refine ixgi ?_;intro _ _));first|rintro _ _ _ _ _ ⟨rfl,rfl⟩ _|rintro _ _ _ _ _ ⟨_,rfl,_⟩ _|rintro _ _ _ _ _ ⟨_,_,_,_,rfl,rfl,_,_⟩ _|intro _ _ _ _ _ _ _))|(refine sx ?_;intro _ _)|((with_reducible refine g_awp ?_);simp only [g0,g1,g2]))
  all_goals first
    | (refine pf ?_; unfold deedOk; omega)
    | skip
  refine w_min4 ?_
  (repeat' first|refine vs ?_|(refine br ?_ ?_<;>intro _<;>try(exfalso;first|omega|contradiction))|((with_reducible refine g_callf n_impl_within ?_);(refine aw_rcall_b s_impl_within ?_ ?_ <;> intro hb <;> first | replace hb := inB_t hb | replace hb := inB_f hb))|((with_reducible refine g_idx ?_);((first|refine ix ?_|refine ixi ?_|(refine ixg ?_;intro _ _)|(refine ixgi ?_;intro _ _));first|rintro _ _ _ _ _ ⟨rfl,rfl⟩ _|rintro _ _ _ _ _ ⟨_,rfl,_⟩ _|rintro _ _ _ _ _ ⟨_,_,_,_,rfl,rfl,_,_⟩ _|intro _ _ _ _ _ _ _))|(refine sx ?_;intro _ _)|((with_reducible refine g_awp ?_);simp only [g0,g1,g2]))
  all_goals first
    | (refine pt ?_; unfold deedOk; omega)
    | (refine pf ?_; unfold deedOk; omega)
theorem s_spec_DeedOk {h : AH} {d : Deed} {v : AV} : RCalls Tryz.prog n_spec_DeedOk [.agg (d.cs v)] h (.bool (bp (deedOk d))) := by
  refine reader (c_spec_DeedOk _) (by simp only [old]) ?_
  unfold p_spec_DeedOk
  (repeat' first|refine vs ?_|(refine br ?_ ?_<;>intro _<;>try(exfalso;first|omega|contradiction))|((with_reducible refine g_callf n_spec_l1In ?_);(refine aw_rcall_b s_spec_l1In ?_ ?_ <;> intro hb <;> first | replace hb := inB_t hb | replace hb := inB_f hb))|((with_reducible refine g_idx ?_);((first|refine ix ?_|refine ixi ?_|(refine ixg ?_;intro _ _)|(refine ixgi ?_;intro _ _));first|rintro _ _ _ _ _ ⟨rfl,rfl⟩ _|rintro _ _ _ _ _ ⟨_,rfl,_⟩ _|rintro _ _ _ _ _ ⟨_,_,_,_,rfl,rfl,_,_⟩ _|intro _ _ _ _ _ _ _))|(refine sx ?_;intro _ _)|((with_reducible refine g_awp ?_);simp only [g0,g1,g2]))
  all_goals first
    | (refine pt ?_; unfold deedOk; omega)
    | (refine pf ?_; unfold deedOk; omega)

theorem s_impl_HoldsRule {h : AH} {t : Task} {v v' : AV} : RCalls Tryz.prog n_impl_HoldsRule [.agg (t.cs v v')] h (.bool (bp (t.op = 2 ∧ t.pc = 2))) := by
  refine reader (c_impl_HoldsRule _) (by simp only [old]) ?_
  unfold p_impl_HoldsRule
  (repeat' first|refine vs ?_|(refine br ?_ ?_<;>intro _<;>try(exfalso;first|omega|contradiction))|((with_reducible refine g_idx ?_);((first|refine ix ?_|refine ixi ?_|(refine ixg ?_;intro _ _)|(refine ixgi ?_;intro _ _));first|rintro _ _ _ _ _ ⟨rfl,rfl⟩ _|rintro _ _ _ _ _ ⟨_,rfl,_⟩ _|rintro _ _ _ _ _ ⟨_,_,_,_,rfl,rfl,_,_⟩ _|intro _ _ _ _ _ _ _))|(refine sx ?_;intro _ _)|((with_reducible refine g_awp ?_);simp only [g0,g1,g2]))
  all_goals first
    | exact pt ⟨by omega, by omega⟩
    | exact pf fun k => by obtain ⟨a1, a2⟩ := k; omega
theorem s_spec_HoldsRule {h : AH} {t : Task} {v v' : AV} : RCalls Tryz.prog n_spec_HoldsRule [.agg (t.cs v v')] h (.bool (bp (t.op = 2 ∧ t.pc = 2))) := by
  refine reader (c_spec_HoldsRule _) (by simp only [old]) ?_
  unfold p_spec_HoldsRule
  (repeat' first|refine vs ?_|(refine br ?_ ?_<;>intro _<;>try(exfalso;first|omega|contradiction))|((with_reducible refine g_idx ?_);((first|refine ix ?_|refine ixi ?_|(refine ixg ?_;intro _ _)|(refine ixgi ?_;intro _ _));first|rintro _ _ _ _ _ ⟨rfl,rfl⟩ _|rintro _ _ _ _ _ ⟨_,rfl,_⟩ _|rintro _ _ _ _ _ ⟨_,_,_,_,rfl,rfl,_,_⟩ _|intro _ _ _ _ _ _ _))|(refine sx ?_;intro _ _)|((with_reducible refine g_awp ?_);simp only [g0,g1,g2]))
  all_goals first
    | exact pt ⟨by omega, by omega⟩
    | exact pf fun k => by obtain ⟨a1, a2⟩ := k; omega

end Go.Proofs.YtekfdoknfcedpaaGreat
end
section
/- Rules and set-ups that are the same. -/
set_option linter.unusedSimpArgs false
set_option linter.unusedVariables false
set_option maxHeartbeats 1000000
namespace Go.Proofs.YtekfdoknfcedpaaGreat
open Go Go.Ab
section
end
end Go.Proofs.YtekfdoknfcedpaaGreat
end
section
/- Stripes of trails; which trails may be; what fits. -/
set_option linter.unusedSimpArgs false
set_option linter.unusedVariables false
set_option maxHeartbeats 1000000
namespace Go.Proofs.YtekfdoknfcedpaaGreat
open Go Go.Ab
section
/- impl.Mix -/
def p_impl_Mix (x0 : AV) : Prog := Bn .and x0 (.int .i64 65535) fun a=>Bn .shl a (.int .u64 7) fun b=>Bn .and b (.int .i64 65535) fun b=>Bn .xor a b fun a=>Bn .shr a (.int .u64 9) fun b=>Bn .xor a b fun a=>Bn .shl a (.int .u64 8) fun b=>Bn .and b (.int .i64 65535) fun b=>Bn .xor a b fun a=>.fin [.val a]
theorem c_impl_Mix (x0 : AV) : CC Tryz.prog n_impl_Mix [x0] (p_impl_Mix x0) := cc Tryz.func212
/- spec.Mix -/
def p_spec_Mix (x0 : AV) : Prog := Bn .and x0 (.int .i64 65535) fun a=>Bn .shl a (.int .u64 7) fun b=>Bn .xor a b fun a=>Bn .and a (.int .i64 65535) fun a=>Bn .shr a (.int .u64 9) fun b=>Bn .xor a b fun a=>Bn .shl a (.int .u64 8) fun b=>Bn .xor a b fun a=>Bn .and a (.int .i64 65535) fun a=>.fin [.val a]
theorem c_spec_Mix (x0 : AV) : CC Tryz.prog n_spec_Mix [x0] (p_spec_Mix x0) := cc Tryz.func184
/- impl.StripeOf -/
def p_impl_StripeOf (x0 x1 : AV) : Prog := Bn .lss x1 (.int .i64 1) fun a=>.ite a (.fin [.val (.int .i64 0)]) (Cl n_impl_Mix [x0] fun a=>Bn .rem a x1 fun a=>.fin [.val a])
theorem c_impl_StripeOf (x0 x1 : AV) : CC Tryz.prog n_impl_StripeOf [x0, x1] (p_impl_StripeOf x0 x1) := cc Tryz.func127
/- spec.StripeOf -/
def p_spec_StripeOf (x0 x1 : AV) : Prog := Bn .lss x1 (.int .i64 1) fun a=>.ite a (.fin [.val (.int .i64 0)]) (Cl n_spec_Mix [x0] fun a=>Bn .rem a x1 fun a=>.fin [.val a])
theorem c_spec_StripeOf (x0 x1 : AV) : CC Tryz.prog n_spec_StripeOf [x0, x1] (p_spec_StripeOf x0 x1) := cc Tryz.func108
/- impl.HoldsStripe -/
def p_impl_HoldsStripe (x0 x1 : AV) : Prog := .op (.box x0) fun a=>Bn .lss x1 (.int .i64 1) fun b=>.ite b (.fin [.val (.int .i64 (-1))]) (Lg 0 a fun b=>Bn .eql b (.int .i64 1) fun b=>Gf b true 1 a fun c=>.gop b true (.bin 0 .eql c (.int .i64 1)) fun c=>Pk b c (.bool false) fun b=>.ite b (.op (.fad 2 a) fun a=>Lg 0 a fun a=>Cl n_impl_StripeOf [a, x1] fun a=>.fin [.val a]) (Lg 0 a fun b=>Bn .eql b (.int .i64 1) fun b=>Gf b true 1 a fun c=>.gop b true (.bin 0 .eql c (.int .i64 3)) fun c=>Pk b c (.bool false) fun b=>.scope (.ite b (.leaf 0 [b]) (Lg 0 a fun b=>Bn .eql b (.int .i64 2) fun b=>Gf b true 1 a fun c=>.gop b true (.bin 0 .eql c (.int .i64 1)) fun c=>.gop b true (.mv c) fun c=>Gf c false 1 a fun a=>.gop c false (.bin 0 .eql a (.int .i64 2)) fun a=>.gop b true (.pick c (.bool true) a) fun a=>Pk b a (.bool false) fun a=>.leaf 0 [a])) (fun b=>.ite (g b 0) (Lg 8 a fun a=>Cl n_impl_StripeOf [a, x1] fun a=>.fin [.val a]) (.fin [.val (.int .i64 (-1))])) fun a b=>tsel a 1 (.leaf 1 b) .bad))
theorem c_impl_HoldsStripe (x0 x1 : AV) : CC Tryz.prog n_impl_HoldsStripe [x0, x1] (p_impl_HoldsStripe x0 x1) := cc Tryz.func206 [1, 2, 22] (fun _ => [])
/- spec.HoldsStripe -/
def p_spec_HoldsStripe (x0 x1 : AV) : Prog := .op (.box x0) fun a=>Bn .lss x1 (.int .i64 1) fun b=>.ite b (.fin [.val (.int .i64 (-1))]) (Lg 0 a fun b=>Bn .eql b (.int .i64 1) fun b=>Gf b true 1 a fun c=>.gop b true (.bin 0 .eql c (.int .i64 1)) fun c=>Pk b c (.bool false) fun b=>.ite b (.op (.fad 2 a) fun a=>Lg 0 a fun a=>Cl n_spec_StripeOf [a, x1] fun a=>.fin [.val a]) (Lg 0 a fun b=>Bn .eql b (.int .i64 1) fun b=>Gf b true 1 a fun c=>.gop b true (.bin 0 .eql c (.int .i64 3)) fun c=>Pk b c (.bool false) fun b=>.scope (.ite b (.leaf 0 [b]) (Lg 0 a fun b=>Bn .eql b (.int .i64 2) fun b=>Gf b true 1 a fun c=>.gop b true (.bin 0 .eql c (.int .i64 1)) fun c=>.gop b true (.mv c) fun c=>Gf c false 1 a fun a=>.gop c false (.bin 0 .eql a (.int .i64 2)) fun a=>.gop b true (.pick c (.bool true) a) fun a=>Pk b a (.bool false) fun a=>.leaf 0 [a])) (fun b=>.ite (g b 0) (Lg 8 a fun a=>Cl n_spec_StripeOf [a, x1] fun a=>.fin [.val a]) (.fin [.val (.int .i64 (-1))])) fun a b=>tsel a 1 (.leaf 1 b) .bad))
theorem c_spec_HoldsStripe (x0 x1 : AV) : CC Tryz.prog n_spec_HoldsStripe [x0, x1] (p_spec_HoldsStripe x0 x1) := cc Tryz.func182 [1, 2, 21] (fun _ => [])
/- impl.TrailOk -/
def p_impl_TrailOk (x0 : AV) : Prog := .op (.box x0) fun a=>Lg 3 a fun b=>Ln 0 b fun c=>.loop [.int .i64 0] (fun d=>Bn .lss (g d 0) c fun c=>.ite c (Ix 6 b (g d 0) fun b=>Ld 6 b fun b=>.op (.alloc z6_822) fun c=>.op (.st 6 c b) fun _=>Ld 6 c fun b=>Cl n_impl_SpanOk [b] fun b=>.op (.una .not b) fun b=>Gf b false 0 c fun c=>Gf b false 0 a fun a=>.gop b false (.bin 0 .neq c a) fun a=>Pk b (.bool true) a fun a=>.ite a (.fin [.val (.bool false)]) (Bn .add (g d 0) (.int .i64 1) fun a=>.leaf 0 [a])) (.leaf 2 [g d 0])) fun b c=>tsel b 1 (.leaf 1 c) (tsel b 2 (Lg 0 a fun b=>Cl n_impl_within [b, .int .i64 1, .int .i64 999] fun b=>Gf b true 1 a fun c=>.gop b true (.bin 0 .geq c (.int .i64 1)) fun c=>Pk b c (.bool false) fun b=>Gf b true 2 a fun c=>.gop b true (.call n_impl_within [c, .int .i64 0, .int .i64 2147483647]) fun c=>Pk b c (.bool false) fun b=>Gf b true 3 a fun a=>.gop b true (.len 0 a) fun a=>.gop b true (.bin 0 .gtr a (.int .i64 0)) fun a=>Pk b a (.bool false) fun a=>.fin [.val a]) .bad)
theorem c_impl_TrailOk (x0 : AV) : CC Tryz.prog n_impl_TrailOk [x0] (p_impl_TrailOk x0) := cc Tryz.func267 [1, 6, 7, 8] (fun _ => [])
/- spec.TrailOk -/
def p_spec_TrailOk (x0 : AV) : Prog := .op (.box x0) fun a=>.loop [.int .i64 0] (fun b=>Lg 3 a fun c=>Ln 0 c fun c=>Bn .lss (g b 0) c fun c=>.ite c (Lg 3 a fun c=>Ix 6 c (g b 0) fun c=>Ld 6 c fun c=>Cl n_spec_SpanOk [c] fun c=>.op (.una .not c) fun c=>Gf c false 3 a fun d=>.gop c false (.mv (g b 0)) fun e=>.gop c false (.idx 6 d e) fun d=>Gf c false 0 d fun d=>Gf c false 0 a fun a=>.gop c false (.bin 0 .neq d a) fun a=>Pk c (.bool true) a fun a=>.ite a (.fin [.val (.bool false)]) (Bn .add (g b 0) (.int .i64 1) fun a=>.leaf 0 [a])) (.leaf 2 [g b 0])) fun b c=>tsel b 1 (.leaf 1 c) (tsel b 2 (Lg 0 a fun b=>Cl n_spec_l1In [b, .int .i64 1, .int .i64 999] fun b=>Gf b true 1 a fun c=>.gop b true (.bin 0 .geq c (.int .i64 1)) fun c=>Pk b c (.bool false) fun b=>Gf b true 2 a fun c=>.gop b true (.call n_spec_l1In [c, .int .i64 0, .int .i64 2147483647]) fun c=>Pk b c (.bool false) fun b=>Gf b true 3 a fun a=>.gop b true (.len 0 a) fun a=>.gop b true (.bin 0 .geq a (.int .i64 1)) fun a=>Pk b a (.bool false) fun a=>.fin [.val a]) .bad)
theorem c_spec_TrailOk (x0 : AV) : CC Tryz.prog n_spec_TrailOk [x0] (p_spec_TrailOk x0) := cc Tryz.func174 [1, 3] (fun r => if r = 4 then [(0, []), (1, []), (2, []), (3, []), (4, []), (5, []), (6, []), (7, []), (8, []), (9, []), (10, []), (11, []), (12, []), (13, []), (14, []), (15, []), (16, []), (17, [])] else [])
/- impl.Fits -/
def p_impl_Fits (x0 x1 : AV) : Prog := .op (.box x0) fun a=>.op (.box x1) fun b=>Ld 6 b fun c=>Cl n_impl_SpanOk [c] fun c=>.gop c true (.ldn 6 b) fun b=>.gop c true (.fad 2 a) fun a=>.gop c true (.ld1 a) fun d=>.gop c true (.call n_impl_SizeOf [b]) fun b=>.gchk c true (.ld1 a) d (.gop c true (.bin 0 .leq b d) fun a=>Pk c a (.bool false) fun a=>.fin [.val a])
theorem c_impl_Fits (x0 x1 : AV) : CC Tryz.prog n_impl_Fits [x0, x1] (p_impl_Fits x0 x1) := cc Tryz.func82 [] (fun r => if r = 1 then [(0, []), (1, []), (2, []), (3, []), (5, []), (6, []), (4, [6]), (7, []), (8, []), (9, [])] else [])
/- spec.Fits -/
def p_spec_Fits (x0 x1 : AV) : Prog := .op (.box x0) fun a=>.op (.box x1) fun b=>Ld 6 b fun c=>Cl n_spec_SpanOk [c] fun c=>.gop c true (.ldn 6 b) fun b=>.gop c true (.fad 2 a) fun a=>.gop c true (.ld1 a) fun d=>.gop c true (.call n_spec_SizeOf [b]) fun b=>.gchk c true (.ld1 a) d (.gop c true (.bin 0 .leq b d) fun a=>Pk c a (.bool false) fun a=>.fin [.val a])
theorem c_spec_Fits (x0 x1 : AV) : CC Tryz.prog n_spec_Fits [x0, x1] (p_spec_Fits x0 x1) := cc Tryz.func162 [] (fun r => if r = 1 then [(0, []), (1, []), (2, []), (3, []), (5, []), (6, []), (4, [6]), (7, []), (8, []), (9, [])] else [])
end
section
variable {P : Program} {h : AH} {Q : Nat → List AV → AH → Prop} {k : AV → Prog}
theorem bv_nat {p : Nat} (hp : p < 9223372036854775808) : (BitVec.ofInt 64 (p : Int)).toNat = p := by
  rw [BitVec.ofInt_natCast, BitVec.toNat_ofNat]; omega
theorem w_andn {p q : Nat} (hp : p < 9223372036854775808) (hq : q < 9223372036854775808) (hk : (k (.int .i64 ((p &&& q : Nat) : Int))).awp P h Q) : (Prog.op (.bin 0 .and (.int .i64 (p : Int)) (.int .i64 (q : Int))) k).awp P h Q := by
  have e : abin .and (.int .i64 (p : Int)) (.int .i64 (q : Int)) = some (.int .i64 ((p &&& q : Nat) : Int)) := by
    have h1 : (BitVec.ofInt 64 (p : Int) &&& BitVec.ofInt 64 (q : Int)).toNat = p &&& q := by rw [BitVec.toNat_and, bv_nat hp, bv_nat hq]
    have h2 : p &&& q ≤ p := Nat.and_le_left
    show (if IntKind.i64 = IntKind.i64 then some (AV.int .i64 (IntKind.i64.wrap ((BitVec.ofInt 64 (p : Int) &&& BitVec.ofInt 64 (q : Int)).toNat : Int))) else none) = _
    rw [if_pos rfl, h1, wrap_id (by omega) (by omega)]
  simp only [Prog.awp, AOp.go, binOk, e]; exact hk
theorem w_and0 {a : Int} (hk : (k (.int .i64 (((BitVec.ofInt 64 a).toNat % 65536 : Nat) : Int))).awp P h Q) : (Prog.op (.bin 0 .and (.int .i64 a) (.int .i64 65535)) k).awp P h Q := by
  have e : abin .and (.int .i64 a) (.int .i64 65535) = some (.int .i64 (((BitVec.ofInt 64 a).toNat % 65536 : Nat) : Int)) := by
    have h1 : (BitVec.ofInt 64 a &&& BitVec.ofInt 64 65535).toNat = (BitVec.ofInt 64 a).toNat % 65536 := by
      rw [BitVec.toNat_and, show (BitVec.ofInt 64 65535).toNat = 2 ^ 16 - 1 by decide, Nat.and_two_pow_sub_one_eq_mod]
    show (if IntKind.i64 = IntKind.i64 then some (AV.int .i64 (IntKind.i64.wrap ((BitVec.ofInt 64 a &&& BitVec.ofInt 64 65535).toNat : Int))) else none) = _
    rw [if_pos rfl, h1, wrap_id (by omega) (by omega)]
  simp only [Prog.awp, AOp.go, binOk, e]; exact hk
theorem w_xorn {p q : Nat} (hp : p < 4294967296) (hq : q < 4294967296) (hk : (k (.int .i64 ((p ^^^ q : Nat) : Int))).awp P h Q) : (Prog.op (.bin 0 .xor (.int .i64 (p : Int)) (.int .i64 (q : Int))) k).awp P h Q := by
  have e : abin .xor (.int .i64 (p : Int)) (.int .i64 (q : Int)) = some (.int .i64 ((p ^^^ q : Nat) : Int)) := by
    have h1 : (BitVec.ofInt 64 (p : Int) ^^^ BitVec.ofInt 64 (q : Int)).toNat = p ^^^ q := by rw [BitVec.toNat_xor, bv_nat (by omega), bv_nat (by omega)]
    have h2 : p ^^^ q < 2 ^ 32 := Nat.xor_lt_two_pow hp hq
    show (if IntKind.i64 = IntKind.i64 then some (AV.int .i64 (IntKind.i64.wrap ((BitVec.ofInt 64 (p : Int) ^^^ BitVec.ofInt 64 (q : Int)).toNat : Int))) else none) = _
    rw [if_pos rfl, h1, wrap_id (by omega) (by omega)]
  simp only [Prog.awp, AOp.go, binOk, e]; exact hk
theorem w_shl7 {p : Nat} (hp : p < 65536) (hk : (k (.int .i64 ((p * 128 : Nat) : Int))).awp P h Q) : (Prog.op (.bin 0 .shl (.int .i64 (p : Int)) (.int .u64 7)) k).awp P h Q := by
  have e : abin .shl (.int .i64 (p : Int)) (.int .u64 7) = some (.int .i64 ((p * 128 : Nat) : Int)) := by
    show (if (7 : Int) < 0 then none else some (AV.int .i64 (IntKind.i64.wrap ((p : Int) * 2 ^ (min (7 : Int).toNat IntKind.i64.bits))))) = _
    rw [if_neg (by decide), show (2 : Int) ^ (min (7 : Int).toNat IntKind.i64.bits) = 128 by decide, wrap_id (by omega) (by omega)]
    simp
  simp only [Prog.awp, AOp.go, binOk, e]; exact hk
theorem w_shl8 {p : Nat} (hp : p < 65536) (hk : (k (.int .i64 ((p * 256 : Nat) : Int))).awp P h Q) : (Prog.op (.bin 0 .shl (.int .i64 (p : Int)) (.int .u64 8)) k).awp P h Q := by
  have e : abin .shl (.int .i64 (p : Int)) (.int .u64 8) = some (.int .i64 ((p * 256 : Nat) : Int)) := by
    show (if (8 : Int) < 0 then none else some (AV.int .i64 (IntKind.i64.wrap ((p : Int) * 2 ^ (min (8 : Int).toNat IntKind.i64.bits))))) = _
    rw [if_neg (by decide), show (2 : Int) ^ (min (8 : Int).toNat IntKind.i64.bits) = 256 by decide, wrap_id (by omega) (by omega)]
    simp
  simp only [Prog.awp, AOp.go, binOk, e]; exact hk
theorem w_shr9 {p : Nat} (hk : (k (.int .i64 ((p / 512 : Nat) : Int))).awp P h Q) : (Prog.op (.bin 0 .shr (.int .i64 (p : Int)) (.int .u64 9)) k).awp P h Q := by
  have e : abin .shr (.int .i64 (p : Int)) (.int .u64 9) = some (.int .i64 ((p / 512 : Nat) : Int)) := by
    show (if (9 : Int) < 0 then none else some (AV.int .i64 ((p : Int).fdiv (2 ^ (min (9 : Int).toNat IntKind.i64.bits))))) = _
    rw [if_neg (by decide), show (2 : Int) ^ (min (9 : Int).toNat IntKind.i64.bits) = 512 by decide, Int.fdiv_eq_ediv_of_nonneg _ (by decide), show (p : Int) / 512 = ((p / 512 : Nat) : Int) by omega]
  simp only [Prog.awp, AOp.go, binOk, e]; exact hk
end
def mixA (n : Int) : Nat := (BitVec.ofInt 64 n).toNat % 65536
def mixB (a : Nat) : Nat := a ^^^ (a * 128) % 65536
def mixC (a : Nat) : Nat := a ^^^ a / 512
def mixD (a : Nat) : Nat := a ^^^ (a * 256) % 65536
def mix (n : Int) : Nat := mixD (mixC (mixB (mixA n)))
theorem mixA_lt (n : Int) : mixA n < 65536 := Nat.mod_lt _ (by decide)
theorem mixB_lt {a : Nat} (h : a < 65536) : mixB a < 65536 := Nat.xor_lt_two_pow (n := 16) h (Nat.mod_lt _ (by decide))
theorem mixC_lt {a : Nat} (h : a < 65536) : mixC a < 65536 := Nat.xor_lt_two_pow (n := 16) h (by omega)
theorem s_impl_Mix {h : AH} {n : Int} : RCalls Tryz.prog n_impl_Mix [.int .i64 n] h (.int .i64 (mix n : Nat)) := by
  refine reader (c_impl_Mix _) (by simp only [old]) ?_
  unfold p_impl_Mix
  have l0 := mixA_lt n
  have l1 := mixB_lt l0
  have l2 := mixC_lt l1
  refine w_and0 ?_
  rw [show (BitVec.ofInt 64 n).toNat % 65536 = mixA n from rfl]
  refine w_shl7 l0 (w_andn (q := 65535) (by omega) (by decide) (w_xorn (by omega) ?_ ?_))
  · exact Nat.lt_of_le_of_lt Nat.and_le_right (by decide)
  rw [Nat.and_two_pow_sub_one_eq_mod (n := 16), show mixA n ^^^ mixA n * 128 % 2 ^ 16 = mixB (mixA n) from rfl]
  refine w_shr9 (w_xorn (by omega) (by omega) ?_)
  rw [show mixB (mixA n) ^^^ mixB (mixA n) / 512 = mixC (mixB (mixA n)) from rfl]
  refine w_shl8 l2 (w_andn (q := 65535) (by omega) (by decide) (w_xorn (by omega) ?_ ?_))
  · exact Nat.lt_of_le_of_lt Nat.and_le_right (by decide)
  rw [Nat.and_two_pow_sub_one_eq_mod (n := 16)]
  exact aw_fin1 (pi rfl)
theorem s_spec_Mix {h : AH} {n : Int} : RCalls Tryz.prog n_spec_Mix [.int .i64 n] h (.int .i64 (mix n : Nat)) := by
  refine reader (c_spec_Mix _) (by simp only [old]) ?_
  unfold p_spec_Mix
  have l0 := mixA_lt n
  have l1 := mixB_lt l0
  have l2 := mixC_lt l1
  have x1 : ∀ a : Nat, a < 65536 → (a ^^^ (a * 128)) < 4294967296 := fun a ha => Nat.xor_lt_two_pow (n := 32) (by omega) (by omega)
  have x2 : ∀ a : Nat, a < 65536 → (a ^^^ (a * 256)) < 4294967296 := fun a ha => Nat.xor_lt_two_pow (n := 32) (by omega) (by omega)
  have y1 := x1 _ l0
  have y2 := x2 _ l2
  refine w_and0 ?_
  rw [show (BitVec.ofInt 64 n).toNat % 65536 = mixA n from rfl]
  refine w_shl7 l0 (w_xorn (by omega) (by omega) (w_andn (q := 65535) (by omega) (by decide) ?_))
  rw [Nat.and_two_pow_sub_one_eq_mod (n := 16), Nat.xor_mod_two_pow, Nat.mod_eq_of_lt (a := mixA n) (b := 2 ^ 16) l0, show mixA n ^^^ mixA n * 128 % 2 ^ 16 = mixB (mixA n) from rfl]
  refine w_shr9 (w_xorn (by omega) (by omega) ?_)
  rw [show mixB (mixA n) ^^^ mixB (mixA n) / 512 = mixC (mixB (mixA n)) from rfl]
  refine w_shl8 l2 (w_xorn (by omega) (by omega) (w_andn (q := 65535) (by omega) (by decide) ?_))
  rw [Nat.and_two_pow_sub_one_eq_mod (n := 16), Nat.xor_mod_two_pow, Nat.mod_eq_of_lt (a := mixC (mixB (mixA n))) (b := 2 ^ 16) l2]
  exact aw_fin1 (pi rfl)

def stripe (t n : Int) : Int := if n < 1 then 0 else ((mix t : Nat) : Int).tmod n
theorem stripe_b {t n : Int} (hn : 1 ≤ n) : 0 ≤ stripe t n ∧ stripe t n < n := by
  unfold stripe
  rw [if_neg (by omega)]
  exact ⟨Int.tmod_nonneg _ (by omega), Int.tmod_lt_of_pos _ (by omega)⟩
theorem s_impl_StripeOf {h : AH} {t n : Int} : RCalls Tryz.prog n_impl_StripeOf [.int .i64 t, .int .i64 n] h (.int .i64 (stripe t n)) := by
  refine reader (c_impl_StripeOf _ _) (by simp only [old]) ?_
  unfold p_impl_StripeOf
  (repeat' first|refine vs ?_|(refine br ?_ ?_<;>intro _<;>try(exfalso;first|omega|contradiction))|((with_reducible refine g_callf n_impl_Mix ?_);refine aw_rcall s_impl_Mix ?_)|((with_reducible refine g_idx ?_);((first|refine ix ?_|refine ixi ?_|(refine ixg ?_;intro _ _)|(refine ixgi ?_;intro _ _));first|rintro _ _ _ _ _ ⟨rfl,rfl⟩ _|rintro _ _ _ _ _ ⟨_,rfl,_⟩ _|rintro _ _ _ _ _ ⟨_,_,_,_,rfl,rfl,_,_⟩ _|intro _ _ _ _ _ _ _))|(refine sx ?_;intro _ _)|((with_reducible refine g_awp ?_);simp only [g0,g1,g2]))
  · exact pi (by unfold stripe; rw [if_pos (by assumption)])
  · refine aw_rem (by omega) (aw_fin1 (pi ?_))
    unfold stripe; rw [if_neg (by assumption)]
theorem s_spec_StripeOf {h : AH} {t n : Int} : RCalls Tryz.prog n_spec_StripeOf [.int .i64 t, .int .i64 n] h (.int .i64 (stripe t n)) := by
  refine reader (c_spec_StripeOf _ _) (by simp only [old]) ?_
  unfold p_spec_StripeOf
  (repeat' first|refine vs ?_|(refine br ?_ ?_<;>intro _<;>try(exfalso;first|omega|contradiction))|((with_reducible refine g_callf n_spec_Mix ?_);refine aw_rcall s_spec_Mix ?_)|((with_reducible refine g_idx ?_);((first|refine ix ?_|refine ixi ?_|(refine ixg ?_;intro _ _)|(refine ixgi ?_;intro _ _));first|rintro _ _ _ _ _ ⟨rfl,rfl⟩ _|rintro _ _ _ _ _ ⟨_,rfl,_⟩ _|rintro _ _ _ _ _ ⟨_,_,_,_,rfl,rfl,_,_⟩ _|intro _ _ _ _ _ _ _))|(refine sx ?_;intro _ _)|((with_reducible refine g_awp ?_);simp only [g0,g1,g2]))
  · exact pi (by unfold stripe; rw [if_pos (by assumption)])
  · refine aw_rem (by omega) (aw_fin1 (pi ?_))
    unfold stripe; rw [if_neg (by assumption)]

def holdsStripe (t : Task) (n : Int) : Int := if n < 1 then -1 else if t.op = 1 ∧ t.pc = 1 then stripe t.s.trace n else if (t.op = 1 ∧ t.pc = 3) ∨ (t.op = 2 ∧ (t.pc = 1 ∨ t.pc = 2)) then stripe t.trace n else -1
theorem s_impl_HoldsStripe {h : AH} {t : Task} {n : Int} {v v' : AV} : RCalls Tryz.prog n_impl_HoldsStripe [.agg (t.cs v v'), .int .i64 n] h (.int .i64 (holdsStripe t n)) := by
  refine reader (c_impl_HoldsStripe _ _) (by simp only [old]) ?_
  unfold p_impl_HoldsStripe
  (repeat' first|refine vs ?_|(refine br ?_ ?_<;>intro _<;>try(exfalso;first|omega|contradiction))|((with_reducible refine g_callf n_impl_StripeOf ?_);refine aw_rcall s_impl_StripeOf ?_)|((with_reducible refine g_idx ?_);((first|refine ix ?_|refine ixi ?_|(refine ixg ?_;intro _ _)|(refine ixgi ?_;intro _ _));first|rintro _ _ _ _ _ ⟨rfl,rfl⟩ _|rintro _ _ _ _ _ ⟨_,rfl,_⟩ _|rintro _ _ _ _ _ ⟨_,_,_,_,rfl,rfl,_,_⟩ _|intro _ _ _ _ _ _ _))|(refine sx ?_;intro _ _)|((with_reducible refine g_awp ?_);simp only [g0,g1,g2]))
  all_goals (refine pi ?_; simp [holdsStripe, *])
theorem s_spec_HoldsStripe {h : AH} {t : Task} {n : Int} {v v' : AV} : RCalls Tryz.prog n_spec_HoldsStripe [.agg (t.cs v v'), .int .i64 n] h (.int .i64 (holdsStripe t n)) := by
  refine reader (c_spec_HoldsStripe _ _) (by simp only [old]) ?_
  unfold p_spec_HoldsStripe
  (repeat' first|refine vs ?_|(refine br ?_ ?_<;>intro _<;>try(exfalso;first|omega|contradiction))|((with_reducible refine g_callf n_spec_StripeOf ?_);refine aw_rcall s_spec_StripeOf ?_)|((with_reducible refine g_idx ?_);((first|refine ix ?_|refine ixi ?_|(refine ixg ?_;intro _ _)|(refine ixgi ?_;intro _ _));first|rintro _ _ _ _ _ ⟨rfl,rfl⟩ _|rintro _ _ _ _ _ ⟨_,rfl,_⟩ _|rintro _ _ _ _ _ ⟨_,_,_,_,rfl,rfl,_,_⟩ _|intro _ _ _ _ _ _ _))|(refine sx ?_;intro _ _)|((with_reducible refine g_awp ?_);simp only [g0,g1,g2]))
  all_goals (refine pi ?_; simp [holdsStripe, *])

def trailOk (t : Trail) : Prop := (∀ s ∈ t.spans, spanOk s ∧ s.trace = t.id) ∧ (1 ≤ t.id ∧ t.id ≤ 999) ∧ 1 ≤ t.stamp ∧ (0 ≤ t.first ∧ t.first ≤ 2147483647) ∧ 0 < (t.spans.length : Int)
theorem s_impl_TrailOk {h : AH} {t : Trail} {v : AV} {F : List Nat} (ok : ∀ x ∈ t.spans, Cel.ok x) (hs : Sz.sz t ≤ 67108864) (r : SlRep h v t.spans F) : RCalls Tryz.prog n_impl_TrailOk [.agg (t.cs v)] h (.bool (bp (trailOk t))) := by
  refine reader (c_impl_TrailOk _) (by simp only [old]) ?_
  unfold p_impl_TrailOk
  have hsz : Sz.sz t = t.spans.length + szs t.spans := rfl
  refine vs ?_
  refine aw_upto t.spans.length (fun i vs h1 => vs = [.int .i64 (i : Int)] ∧ i ≤ t.spans.length ∧ Ext (h.push ⟨t.cs v, 0, 0⟩) h1 ∧ Upto t.spans (fun _ s => spanOk s ∧ s.trace = t.id) i) ⟨rfl, Nat.zero_le _, ext_auto, up0⟩ ?_
  rintro i vs h1 _ ⟨rfl, hi, e1, hu⟩
  simp only [g0]
  refine br (fun hlt => ?_) (fun hge => ?_)
  · obtain ⟨x, hx, -, -⟩ := drop_step (show i < t.spans.length by omega)
    have hm := List.mem_of_getElem? hx
    have h5 := szs_mem hm
    (repeat' first|refine vs ?_|(refine br ?_ ?_<;>intro _<;>try(exfalso;first|omega|contradiction))|((with_reducible refine g_callf n_impl_SpanOk ?_);(refine aw_rcall_b (s_impl_SpanOk (ok x hm) (by omega) slr_auto) ?_ ?_ <;> intro hn <;> first | replace hn := bp_true hn | replace hn := bp_false hn))|((with_reducible refine g_idx ?_);((first|refine ix ?_|refine ixi ?_|(refine ixg ?_;intro _ _)|(refine ixgi ?_;intro _ _));first|rintro _ _ _ _ _ ⟨rfl,rfl⟩ _|rintro _ _ _ _ _ ⟨_,rfl,_⟩ _|rintro _ _ _ _ _ ⟨_,_,_,_,rfl,rfl,_,_⟩ _|intro _ _ _ _ _ _ _))|(refine sx ?_;intro _ _)|((with_reducible refine g_awp ?_);simp only [g0,g1,g2]))
    all_goals first
      | exact pf fun k => upNot hx (by rintro ⟨a1, a2⟩; first | contradiction | omega) k.1
      | exact ⟨by omega, rfl, by omega, ext_auto, upS hu hx ⟨hn, by omega⟩⟩
  · have e : i = t.spans.length := by omega
    rw [e] at hu
    have hu := upAll hu
    (repeat' first|refine vs ?_|(refine br ?_ ?_<;>intro _<;>try(exfalso;first|omega|contradiction))|((with_reducible refine g_callf n_impl_within ?_);(refine aw_rcall_b s_impl_within ?_ ?_ <;> intro hb <;> first | replace hb := inB_t hb | replace hb := inB_f hb))|((with_reducible refine g_idx ?_);((first|refine ix ?_|refine ixi ?_|(refine ixg ?_;intro _ _)|(refine ixgi ?_;intro _ _));first|rintro _ _ _ _ _ ⟨rfl,rfl⟩ _|rintro _ _ _ _ _ ⟨_,rfl,_⟩ _|rintro _ _ _ _ _ ⟨_,_,_,_,rfl,rfl,_,_⟩ _|intro _ _ _ _ _ _ _))|(refine sx ?_;intro _ _)|((with_reducible refine g_awp ?_);simp only [g0,g1,g2]))
    all_goals first
      | exact pt ⟨hu, by omega, by omega, by omega, by omega⟩
      | exact pf fun k => by obtain ⟨a1, a2, a3, a4, a5⟩ := k; omega
theorem s_spec_TrailOk {h : AH} {t : Trail} {v : AV} {F : List Nat} (ok : ∀ x ∈ t.spans, Cel.ok x) (hs : Sz.sz t ≤ 67108864) (r : SlRep h v t.spans F) : RCalls Tryz.prog n_spec_TrailOk [.agg (t.cs v)] h (.bool (bp (trailOk t))) := by
  refine reader (c_spec_TrailOk _) (by simp only [old]) ?_
  unfold p_spec_TrailOk
  have hsz : Sz.sz t = t.spans.length + szs t.spans := rfl
  have hsm := r.small
  refine vs ?_
  refine aw_upto t.spans.length (fun i vs h1 => vs = [.int .i64 (i : Int)] ∧ i ≤ t.spans.length ∧ Ext (h.push ⟨t.cs v, 0, 0⟩) h1 ∧ Upto t.spans (fun _ s => spanOk s ∧ s.trace = t.id) i) ⟨rfl, Nat.zero_le _, ext_auto, up0⟩ ?_
  rintro i vs h1 _ ⟨rfl, hi, e1, hu⟩
  simp only [g0]
  refine vs ?_
  refine br (fun hlt => ?_) (fun hge => ?_)
  · obtain ⟨x, hx, -, -⟩ := drop_step (show i < t.spans.length by omega)
    have hm := List.mem_of_getElem? hx
    have h5 := szs_mem hm
    (repeat' first|refine vs ?_|(refine br ?_ ?_<;>intro _<;>try(exfalso;first|omega|contradiction))|((with_reducible refine g_callf n_spec_SpanOk ?_);(refine aw_rcall_b (s_spec_SpanOk (ok x hm) (by omega) slr_auto) ?_ ?_ <;> intro hn <;> first | replace hn := bp_true hn | replace hn := bp_false hn))|((with_reducible refine g_idx ?_);((first|refine ix ?_|refine ixi ?_|(refine ixg ?_;intro _ _)|(refine ixgi ?_;intro _ _));first|rintro _ _ _ _ _ ⟨rfl,rfl⟩ _|rintro _ _ _ _ _ ⟨_,rfl,_⟩ _|rintro _ _ _ _ _ ⟨_,_,_,_,rfl,rfl,_,_⟩ _|intro _ _ _ _ _ _ _))|(refine sx ?_;intro _ _)|((with_reducible refine g_awp ?_);simp only [g0,g1,g2]))
    all_goals first
      | exact pf fun k => upNot hx (by rintro ⟨a1, a2⟩; first | contradiction | omega) k.1
      | exact ⟨by omega, rfl, by omega, ext_auto, upS hu hx ⟨hn, by omega⟩⟩
  · have e : i = t.spans.length := by omega
    rw [e] at hu
    have hu := upAll hu
    (repeat' first|refine vs ?_|(refine br ?_ ?_<;>intro _<;>try(exfalso;first|omega|contradiction))|((with_reducible refine g_callf n_spec_l1In ?_);(refine aw_rcall_b s_spec_l1In ?_ ?_ <;> intro hb <;> first | replace hb := inB_t hb | replace hb := inB_f hb))|((with_reducible refine g_idx ?_);((first|refine ix ?_|refine ixi ?_|(refine ixg ?_;intro _ _)|(refine ixgi ?_;intro _ _));first|rintro _ _ _ _ _ ⟨rfl,rfl⟩ _|rintro _ _ _ _ _ ⟨_,rfl,_⟩ _|rintro _ _ _ _ _ ⟨_,_,_,_,rfl,rfl,_,_⟩ _|intro _ _ _ _ _ _ _))|(refine sx ?_;intro _ _)|((with_reducible refine g_awp ?_);simp only [g0,g1,g2]))
    all_goals first
      | exact pt ⟨hu, by omega, by omega, by omega, by omega⟩
      | exact pf fun k => by obtain ⟨a1, a2, a3, a4, a5⟩ := k; omega

def fits (c : Conf) (s : Span) : Prop := spanOk s ∧ spanSize s ≤ c.budget
theorem s_impl_Fits {h : AH} {c : Conf} {s : Span} {v v' : AV} {F : List Nat} (ok : Cel.ok s) (hs : Sz.sz s ≤ 67108864) (r : SlRep h v' s.attrs F) : RCalls Tryz.prog n_impl_Fits [.agg (c.cs v), .agg (s.cs v')] h (.bool (bp (fits c s))) := by
  refine reader (c_impl_Fits _ _) (by simp only [old]) ?_
  unfold p_impl_Fits
  (repeat' first|refine vs ?_|(refine br ?_ ?_<;>intro _<;>try(exfalso;first|omega|contradiction))|((with_reducible refine g_callf n_impl_SpanOk ?_);(refine aw_rcall_b (s_impl_SpanOk ok hs slr_auto) ?_ ?_ <;> intro hn <;> first | replace hn := bp_true hn | replace hn := bp_false hn))|((with_reducible refine g_callf n_impl_SizeOf ?_);refine aw_rcall (s_impl_SizeOf hs slr_auto) ?_)|((with_reducible refine g_idx ?_);((first|refine ix ?_|refine ixi ?_|(refine ixg ?_;intro _ _)|(refine ixgi ?_;intro _ _));first|rintro _ _ _ _ _ ⟨rfl,rfl⟩ _|rintro _ _ _ _ _ ⟨_,rfl,_⟩ _|rintro _ _ _ _ _ ⟨_,_,_,_,rfl,rfl,_,_⟩ _|intro _ _ _ _ _ _ _))|(refine sx ?_;intro _ _)|((with_reducible refine g_awp ?_);simp only [g0,g1,g2]))
  all_goals first
    | exact pt ⟨by assumption, by omega⟩
    | exact pf fun k => by obtain ⟨a1, a2⟩ := k; first | contradiction | omega
theorem s_spec_Fits {h : AH} {c : Conf} {s : Span} {v v' : AV} {F : List Nat} (ok : Cel.ok s) (hs : Sz.sz s ≤ 67108864) (r : SlRep h v' s.attrs F) : RCalls Tryz.prog n_spec_Fits [.agg (c.cs v), .agg (s.cs v')] h (.bool (bp (fits c s))) := by
  refine reader (c_spec_Fits _ _) (by simp only [old]) ?_
  unfold p_spec_Fits
  (repeat' first|refine vs ?_|(refine br ?_ ?_<;>intro _<;>try(exfalso;first|omega|contradiction))|((with_reducible refine g_callf n_spec_SpanOk ?_);(refine aw_rcall_b (s_spec_SpanOk ok hs slr_auto) ?_ ?_ <;> intro hn <;> first | replace hn := bp_true hn | replace hn := bp_false hn))|((with_reducible refine g_callf n_spec_SizeOf ?_);refine aw_rcall (s_spec_SizeOf hs slr_auto) ?_)|((with_reducible refine g_idx ?_);((first|refine ix ?_|refine ixi ?_|(refine ixg ?_;intro _ _)|(refine ixgi ?_;intro _ _));first|rintro _ _ _ _ _ ⟨rfl,rfl⟩ _|rintro _ _ _ _ _ ⟨_,rfl,_⟩ _|rintro _ _ _ _ _ ⟨_,_,_,_,rfl,rfl,_,_⟩ _|intro _ _ _ _ _ _ _))|(refine sx ?_;intro _ _)|((with_reducible refine g_awp ?_);simp only [g0,g1,g2]))
  all_goals first
    | exact pt ⟨by assumption, by omega⟩
    | exact pf fun k => by obtain ⟨a1, a2⟩ := k; first | contradiction | omega
end Go.Proofs.YtekfdoknfcedpaaGreat
end
section
/- Copies of things, trails and stripes. -/
set_option linter.unusedSimpArgs false
set_option linter.unusedVariables false
set_option maxHeartbeats 1000000
namespace Go.Proofs.YtekfdoknfcedpaaGreat
open Go Go.Ab
section
/- impl.copySpan -/
def p_impl_copySpan (x0 : AV) : Prog := .op (.box x0) fun a=>.op (.alloc z6_822) fun b=>Lg 5 a fun c=>.op (.app 4 48 .nils c) fun c=>Sg 5 a c fun _=>Ld 6 a fun a=>.op (.st 6 b a) fun _=>.fin [.cn 6 b]
theorem c_impl_copySpan (x0 : AV) : CC Tryz.prog n_impl_copySpan [x0] (p_impl_copySpan x0) := cc Tryz.func80
/- spec.l3Copy -/
def p_spec_l3Copy (x0 : AV) : Prog := .op (.box x0) fun a=>.op (.alloc z6_822) fun b=>.op (.bslice 4 0 [] []) fun c=>Lg 5 a fun d=>.op (.app 4 48 c d) fun c=>Sg 5 a c fun _=>Ld 6 a fun a=>.op (.st 6 b a) fun _=>.fin [.cn 6 b]
theorem c_spec_l3Copy (x0 : AV) : CC Tryz.prog n_spec_l3Copy [x0] (p_spec_l3Copy x0) := cc Tryz.func161
/- impl.copySpans -/
def p_impl_copySpans (x0 : AV) : Prog := Ln 0 x0 fun a=>.loop [.nils, .int .i64 0] (fun b=>Bn .lss (g b 1) a fun a=>.ite a (Ix 6 x0 (g b 1) fun a=>Ld 6 a fun a=>.op (.alloc z6_822) fun c=>.op (.st 6 c a) fun _=>Ld 6 c fun a=>Cl n_impl_copySpan [a] fun a=>.op (.bslice 6 1 z6_822 [(0, 6, a)]) fun a=>.op (.app 6 64 (g b 0) a) fun a=>Bn .add (g b 1) (.int .i64 1) fun b=>.leaf 0 [a, b]) (.leaf 2 [g b 0, g b 1])) fun a b=>tsel a 1 (.leaf 1 b) (tsel a 2 (.fin [.val (g b 0)]) .bad)
theorem c_impl_copySpans (x0 : AV) : CC Tryz.prog n_impl_copySpans [x0] (p_impl_copySpans x0) := cc Tryz.func280 [3, 6, 7, 8] (fun _ => [])
/- spec.l3All -/
def p_spec_l3All (x0 : AV) : Prog := .op (.bslice 6 0 [] []) fun a=>.loop [a, .int .i64 0] (fun a=>Ln 0 x0 fun b=>Bn .lss (g a 1) b fun b=>.ite b (Ix 6 x0 (g a 1) fun b=>Ld 6 b fun b=>Cl n_spec_l3Copy [b] fun b=>.op (.alloc z6_822) fun c=>.op (.st 6 c b) fun _=>Ld 6 c fun b=>.op (.bslice 6 1 z6_822 [(0, 6, b)]) fun b=>.op (.app 6 64 (g a 0) b) fun b=>Bn .add (g a 1) (.int .i64 1) fun a=>.leaf 0 [b, a]) (.leaf 2 [g a 0, g a 1])) fun a b=>tsel a 1 (.leaf 1 b) (tsel a 2 (.fin [.val (g b 0)]) .bad)
theorem c_spec_l3All (x0 : AV) : CC Tryz.prog n_spec_l3All [x0] (p_spec_l3All x0) := cc Tryz.func308 [0, 3, 4] (fun _ => [])
/- impl.copyTrail -/
def p_impl_copyTrail (x0 : AV) : Prog := .op (.box x0) fun a=>.op (.alloc [.int .i64 0, .int .i64 0, .int .i64 0, .nils]) fun b=>Lg 3 a fun c=>Cl n_impl_copySpans [c] fun c=>Sg 3 a c fun _=>Ld 4 a fun a=>.op (.st 4 b a) fun _=>.fin [.cn 4 b]
theorem c_impl_copyTrail (x0 : AV) : CC Tryz.prog n_impl_copyTrail [x0] (p_impl_copyTrail x0) := cc Tryz.func214
/- spec.l10Copy -/
def p_spec_l10Copy (x0 : AV) : Prog := .op (.box x0) fun a=>.op (.alloc [.int .i64 0, .int .i64 0, .int .i64 0, .nils]) fun b=>Lg 3 a fun c=>Cl n_spec_l3All [c] fun c=>Sg 3 a c fun _=>Ld 4 a fun a=>.op (.st 4 b a) fun _=>.fin [.cn 4 b]
theorem c_spec_l10Copy (x0 : AV) : CC Tryz.prog n_spec_l10Copy [x0] (p_spec_l10Copy x0) := cc Tryz.func248
/- impl.copyTrails -/
def p_impl_copyTrails (x0 : AV) : Prog := Ln 0 x0 fun a=>.loop [.nils, .int .i64 0] (fun b=>Bn .lss (g b 1) a fun a=>.ite a (Ix 4 x0 (g b 1) fun a=>Ld 4 a fun a=>.op (.alloc [.int .i64 0, .int .i64 0, .int .i64 0, .nils]) fun c=>.op (.st 4 c a) fun _=>Ld 4 c fun a=>Cl n_impl_copyTrail [a] fun a=>.op (.bslice 4 1 [.int .i64 0, .int .i64 0, .int .i64 0, .nils] [(0, 4, a)]) fun a=>.op (.app 4 48 (g b 0) a) fun a=>Bn .add (g b 1) (.int .i64 1) fun b=>.leaf 0 [a, b]) (.leaf 2 [g b 0, g b 1])) fun a b=>tsel a 1 (.leaf 1 b) (tsel a 2 (.fin [.val (g b 0)]) .bad)
theorem c_impl_copyTrails (x0 : AV) : CC Tryz.prog n_impl_copyTrails [x0] (p_impl_copyTrails x0) := cc Tryz.func193 [3, 6, 7, 8] (fun _ => [])
/- spec.l10All -/
def p_spec_l10All (x0 : AV) : Prog := .op (.bslice 4 0 [] []) fun a=>.loop [a, .int .i64 0] (fun a=>Ln 0 x0 fun b=>Bn .lss (g a 1) b fun b=>.ite b (Ix 4 x0 (g a 1) fun b=>Ld 4 b fun b=>Cl n_spec_l10Copy [b] fun b=>.op (.alloc [.int .i64 0, .int .i64 0, .int .i64 0, .nils]) fun c=>.op (.st 4 c b) fun _=>Ld 4 c fun b=>.op (.bslice 4 1 [.int .i64 0, .int .i64 0, .int .i64 0, .nils] [(0, 4, b)]) fun b=>.op (.app 4 48 (g a 0) b) fun b=>Bn .add (g a 1) (.int .i64 1) fun a=>.leaf 0 [b, a]) (.leaf 2 [g a 0, g a 1])) fun a b=>tsel a 1 (.leaf 1 b) (tsel a 2 (.fin [.val (g b 0)]) .bad)
theorem c_spec_l10All (x0 : AV) : CC Tryz.prog n_spec_l10All [x0] (p_spec_l10All x0) := cc Tryz.func170 [0, 3, 4] (fun _ => [])
/- impl.copyStripes -/
def p_impl_copyStripes (x0 : AV) : Prog := Ln 0 x0 fun a=>.loop [.nils, .int .i64 0] (fun b=>Bn .lss (g b 1) a fun a=>.ite a (Ix 2 x0 (g b 1) fun a=>Ld 2 a fun a=>.op (.alloc [.int .i64 0, .nils]) fun c=>.op (.st 2 c a) fun _=>.op (.fad 0 c) fun a=>.op (.ld1 a) fun d=>Lg 1 c fun c=>Cl n_impl_copyTrails [c] fun c=>.chk (.ld1 a) d (.op (.build [.int .i64 0, .nils] [(0, 1, d), (1, 1, c)]) fun a=>.op (.bslice 2 1 [.int .i64 0, .nils] [(0, 2, a)]) fun a=>.op (.app 2 32 (g b 0) a) fun a=>Bn .add (g b 1) (.int .i64 1) fun b=>.leaf 0 [a, b])) (.leaf 2 [g b 0, g b 1])) fun a b=>tsel a 1 (.leaf 1 b) (tsel a 2 (.fin [.val (g b 0)]) .bad)
theorem c_impl_copyStripes (x0 : AV) : CC Tryz.prog n_impl_copyStripes [x0] (p_impl_copyStripes x0) := cc Tryz.func120 [3, 6, 7, 8] (fun r => if r = 5 then [(0, []), (1, []), (2, []), (3, []), (4, []), (5, [2]), (6, []), (7, []), (8, []), (9, [])] else [])
/- spec.l11Copy -/
def p_spec_l11Copy (x0 : AV) : Prog := .op (.bslice 2 0 [] []) fun a=>.loop [a, .int .i64 0] (fun a=>Ln 0 x0 fun b=>Bn .lss (g a 1) b fun b=>.ite b (Ix 2 x0 (g a 1) fun b=>.op (.fad 0 b) fun b=>.op (.ld1 b) fun c=>Ix 2 x0 (g a 1) fun d=>Lg 1 d fun d=>Cl n_spec_l10All [d] fun d=>.chk (.ld1 b) c (.op (.build [.int .i64 0, .nils] [(0, 1, c), (1, 1, d)]) fun b=>.op (.bslice 2 1 [.int .i64 0, .nils] [(0, 2, b)]) fun b=>.op (.app 2 32 (g a 0) b) fun b=>Bn .add (g a 1) (.int .i64 1) fun a=>.leaf 0 [b, a])) (.leaf 2 [g a 0, g a 1])) fun a b=>tsel a 1 (.leaf 1 b) (tsel a 2 (.fin [.val (g b 0)]) .bad)
theorem c_spec_l11Copy (x0 : AV) : CC Tryz.prog n_spec_l11Copy [x0] (p_spec_l11Copy x0) := cc Tryz.func92 [0, 3, 4] (fun r => if r = 5 then [(0, []), (1, []), (2, []), (3, []), (4, []), (5, []), (6, []), (7, []), (8, []), (9, []), (10, []), (11, [5]), (12, []), (13, []), (14, []), (15, [])] else [])
end
theorem s_impl_copySpan (x : Span) (hs : Sz.sz x ≤ 67108864) : CopyX Span Tryz.prog n_impl_copySpan x := by
  rintro cs F h ⟨v0, rfl, r0⟩
  have hs : (x.attrs.length + szs x.attrs) ≤ 67108864 := hs
  refine c_impl_copySpan _ ?_
  unfold p_impl_copySpan
  (repeat' first|refine vs ?_|(refine br ?_ ?_<;>intro _<;>try(exfalso;first|omega|contradiction))|((with_reducible refine g_idx ?_);((first|refine ix ?_|refine ixi ?_|(refine ixg ?_;intro _ _)|(refine ixgi ?_;intro _ _));first|rintro _ _ _ _ _ ⟨rfl,rfl⟩ _|rintro _ _ _ _ _ ⟨_,rfl,_⟩ _|rintro _ _ _ _ _ ⟨_,_,_,_,rfl,rfl,_,_⟩ _|intro _ _ _ _ _ _ _))|(refine sx ?_;intro _ _)|((with_reducible refine g_awp ?_);simp only [g0,g1,g2]))
  refine app0 (n := h.n + 2) (ys := x.attrs) (Fy := F) slr_auto (tail_own (α := Attr) r0 _) om_auto rfl (by omega) ?_
  intro u h' F' e r' o'
  have n1 := e.1
  simp only [push_n] at n1
  (repeat' first|refine vs ?_|(refine br ?_ ?_<;>intro _<;>try(exfalso;first|omega|contradiction))|((with_reducible refine g_idx ?_);((first|refine ix ?_|refine ixi ?_|(refine ixg ?_;intro _ _)|(refine ixgi ?_;intro _ _));first|rintro _ _ _ _ _ ⟨rfl,rfl⟩ _|rintro _ _ _ _ _ ⟨_,rfl,_⟩ _|rintro _ _ _ _ _ ⟨_,_,_,_,rfl,rfl,_,_⟩ _|intro _ _ _ _ _ _ _))|(refine sx ?_;intro _ _)|((with_reducible refine g_awp ?_);simp only [g0,g1,g2]))
  exact ⟨rfl, _, rfl, ext_auto, _, _, rfl, ⟨_, rfl, slr_auto⟩, ol_auto⟩
theorem s_spec_l3Copy (x : Span) (hs : Sz.sz x ≤ 67108864) : CopyX Span Tryz.prog n_spec_l3Copy x := by
  rintro cs F h ⟨v0, rfl, r0⟩
  have hs : (x.attrs.length + szs x.attrs) ≤ 67108864 := hs
  refine c_spec_l3Copy _ ?_
  unfold p_spec_l3Copy
  (repeat' first|refine vs ?_|(refine br ?_ ?_<;>intro _<;>try(exfalso;first|omega|contradiction))|((with_reducible refine g_idx ?_);((first|refine ix ?_|refine ixi ?_|(refine ixg ?_;intro _ _)|(refine ixgi ?_;intro _ _));first|rintro _ _ _ _ _ ⟨rfl,rfl⟩ _|rintro _ _ _ _ _ ⟨_,rfl,_⟩ _|rintro _ _ _ _ _ ⟨_,_,_,_,rfl,rfl,_,_⟩ _|intro _ _ _ _ _ _ _))|(refine sx ?_;intro _ _)|((with_reducible refine g_awp ?_);simp only [g0,g1,g2]))
  refine appE (n := h.n + 2) (ys := x.attrs) (Fy := F) slr_auto (tail_own (α := Attr) r0 _) om_auto rfl (by omega) ?_
  intro u h' F' e r' o'
  have n1 := e.1
  simp only [push_n] at n1
  (repeat' first|refine vs ?_|(refine br ?_ ?_<;>intro _<;>try(exfalso;first|omega|contradiction))|((with_reducible refine g_idx ?_);((first|refine ix ?_|refine ixi ?_|(refine ixg ?_;intro _ _)|(refine ixgi ?_;intro _ _));first|rintro _ _ _ _ _ ⟨rfl,rfl⟩ _|rintro _ _ _ _ _ ⟨_,rfl,_⟩ _|rintro _ _ _ _ _ ⟨_,_,_,_,rfl,rfl,_,_⟩ _|intro _ _ _ _ _ _ _))|(refine sx ?_;intro _ _)|((with_reducible refine g_awp ?_);simp only [g0,g1,g2]))
  exact ⟨rfl, _, rfl, ext_auto, _, _, rfl, ⟨_, rfl, slr_auto⟩, ol_auto⟩
theorem s_impl_copySpans (xs : List Span) (hs : xs.length + szs xs ≤ 67108864) : CopyL Tryz.prog n_impl_copySpans xs := fun v F h r =>
  c_impl_copySpans _ (mapI_spec rfl rfl (by decide) (fun x hx => s_impl_copySpan x (by have := szs_mem hx; omega)) r (by omega))
theorem s_spec_l3All (xs : List Span) (hs : xs.length + szs xs ≤ 67108864) : CopyL Tryz.prog n_spec_l3All xs := fun v F h r =>
  c_spec_l3All _ (mapS_spec rfl rfl (by decide) (fun x hx => s_spec_l3Copy x (by have := szs_mem hx; omega)) r (by omega))
theorem s_impl_copyTrail (x : Trail) (hs : Sz.sz x ≤ 67108864) : CopyX Trail Tryz.prog n_impl_copyTrail x := by
  rintro cs F h ⟨v0, rfl, r0⟩
  have hs : (x.spans.length + szs x.spans) ≤ 67108864 := hs
  refine c_impl_copyTrail _ ?_
  unfold p_impl_copyTrail
  (repeat' first|refine vs ?_|(refine br ?_ ?_<;>intro _<;>try(exfalso;first|omega|contradiction))|((with_reducible refine g_callf n_impl_copySpans ?_);(refine aw_call (s_impl_copySpans _ hs _ _ _ slr_auto) ?_; rintro _ _ ⟨e_, _, _, _⟩; have n_ := e_.1; (try simp only [push_n, upd_n] at n_)))|((with_reducible refine g_idx ?_);((first|refine ix ?_|refine ixi ?_|(refine ixg ?_;intro _ _)|(refine ixgi ?_;intro _ _));first|rintro _ _ _ _ _ ⟨rfl,rfl⟩ _|rintro _ _ _ _ _ ⟨_,rfl,_⟩ _|rintro _ _ _ _ _ ⟨_,_,_,_,rfl,rfl,_,_⟩ _|intro _ _ _ _ _ _ _))|(refine sx ?_;intro _ _)|((with_reducible refine g_awp ?_);simp only [g0,g1,g2]))
  exact ⟨rfl, _, rfl, ext_auto, _, _, rfl, ⟨_, rfl, slr_auto⟩, ol_auto⟩
theorem s_spec_l10Copy (x : Trail) (hs : Sz.sz x ≤ 67108864) : CopyX Trail Tryz.prog n_spec_l10Copy x := by
  rintro cs F h ⟨v0, rfl, r0⟩
  have hs : (x.spans.length + szs x.spans) ≤ 67108864 := hs
  refine c_spec_l10Copy _ ?_
  unfold p_spec_l10Copy
  (repeat' first|refine vs ?_|(refine br ?_ ?_<;>intro _<;>try(exfalso;first|omega|contradiction))|((with_reducible refine g_callf n_spec_l3All ?_);(refine aw_call (s_spec_l3All _ hs _ _ _ slr_auto) ?_; rintro _ _ ⟨e_, _, _, _⟩; have n_ := e_.1; (try simp only [push_n, upd_n] at n_)))|((with_reducible refine g_idx ?_);((first|refine ix ?_|refine ixi ?_|(refine ixg ?_;intro _ _)|(refine ixgi ?_;intro _ _));first|rintro _ _ _ _ _ ⟨rfl,rfl⟩ _|rintro _ _ _ _ _ ⟨_,rfl,_⟩ _|rintro _ _ _ _ _ ⟨_,_,_,_,rfl,rfl,_,_⟩ _|intro _ _ _ _ _ _ _))|(refine sx ?_;intro _ _)|((with_reducible refine g_awp ?_);simp only [g0,g1,g2]))
  exact ⟨rfl, _, rfl, ext_auto, _, _, rfl, ⟨_, rfl, slr_auto⟩, ol_auto⟩
theorem s_impl_copyTrails (xs : List Trail) (hs : xs.length + szs xs ≤ 67108864) : CopyL Tryz.prog n_impl_copyTrails xs := fun v F h r =>
  c_impl_copyTrails _ (mapI_spec rfl rfl (by decide) (fun x hx => s_impl_copyTrail x (by have := szs_mem hx; omega)) r (by omega))
theorem s_spec_l10All (xs : List Trail) (hs : xs.length + szs xs ≤ 67108864) : CopyL Tryz.prog n_spec_l10All xs := fun v F h r =>
  c_spec_l10All _ (mapS_spec rfl rfl (by decide) (fun x hx => s_spec_l10Copy x (by have := szs_mem hx; omega)) r (by omega))

theorem s_impl_copyStripes (xs : List Stripe) (hs : xs.length + szs xs ≤ 67108864) : CopyL Tryz.prog n_impl_copyStripes xs := by
  intro v F h r
  refine c_impl_copyStripes _ ?_
  unfold p_impl_copyStripes
  have hsm := r.small
  refine aw_len r ?_
  refine aw_upto xs.length (fun i vs h1 => ∃ u G, vs = [u, .int .i64 (i : Int)] ∧ i ≤ xs.length ∧ Ext h h1 ∧ SlRep h1 u (xs.take i) G ∧ Own h.n h1 G) ⟨.nils, [], rfl, Nat.zero_le _, Ext.refl _, SlRep.nils, Own.nil⟩ ?_
  rintro i vs h1 _ ⟨u, G, rfl, hi, e1, ru, ou⟩
  have n1 := e1.1
  simp only [g0, g1]
  refine br (fun hlt => ?_) (fun hge => ?_)
  · obtain ⟨x, hx, -, htk⟩ := drop_step (show i < xs.length by omega)
    have hm := szs_mem (List.mem_of_getElem? hx)
    have hx2 : Sz.sz x = x.l.length + szs x.l := rfl
    refine vs ?_
    refine aw_idx r hx rfl ?_
    rintro b o _ Fi a ⟨v0, rfl, r0⟩ _
    (repeat' first|refine vs ?_|(refine br ?_ ?_<;>intro _<;>try(exfalso;first|omega|contradiction))|((with_reducible refine g_callf n_impl_copyTrails ?_);(refine aw_call (s_impl_copyTrails x.l (by omega) _ _ _ slr_auto) ?_; rintro w2 h2 ⟨e2, G2, q2, o2⟩; have n2 := e2.1; (try simp only [push_n, upd_n] at n2)))|((with_reducible refine g_idx ?_);((first|refine ix ?_|refine ixi ?_|(refine ixg ?_;intro _ _)|(refine ixgi ?_;intro _ _));first|rintro _ _ _ _ _ ⟨rfl,rfl⟩ _|rintro _ _ _ _ _ ⟨_,rfl,_⟩ _|rintro _ _ _ _ _ ⟨_,_,_,_,rfl,rfl,_,_⟩ _|intro _ _ _ _ _ _ _))|(refine sx ?_;intro _ _)|((with_reducible refine g_awp ?_);simp only [g0,g1,g2]))
    have hlen : (xs.take i).length = i := by rw [List.length_take]; omega
    refine app1 (n := h.n) (xs := xs.take i) (Fx := G) (a := x) slr_auto ⟨_, rfl, q2⟩ (own_app (ol_auto) o2 (by simp only [push_n]; omega) dis_auto) om_auto rfl ?_ ?_ ?_
    · rw [hlen]; omega
    · rw [hlen]; omega
    intro u' h' F' ek kp r' o'
    (repeat' first|refine vs ?_|(refine br ?_ ?_<;>intro _<;>try(exfalso;first|omega|contradiction))|((with_reducible refine g_idx ?_);((first|refine ix ?_|refine ixi ?_|(refine ixg ?_;intro _ _)|(refine ixgi ?_;intro _ _));first|rintro _ _ _ _ _ ⟨rfl,rfl⟩ _|rintro _ _ _ _ _ ⟨_,rfl,_⟩ _|rintro _ _ _ _ _ ⟨_,_,_,_,rfl,rfl,_,_⟩ _|intro _ _ _ _ _ _ _))|(refine sx ?_;intro _ _)|((with_reducible refine g_awp ?_);simp only [g0,g1,g2]))
    exact ⟨by omega, u', F', rfl, by omega, ek h ext_auto (Nat.le_refl _), by rw [htk]; exact r', o'⟩
  · (repeat' first|refine vs ?_|(refine br ?_ ?_<;>intro _<;>try(exfalso;first|omega|contradiction))|((with_reducible refine g_idx ?_);((first|refine ix ?_|refine ixi ?_|(refine ixg ?_;intro _ _)|(refine ixgi ?_;intro _ _));first|rintro _ _ _ _ _ ⟨rfl,rfl⟩ _|rintro _ _ _ _ _ ⟨_,rfl,_⟩ _|rintro _ _ _ _ _ ⟨_,_,_,_,rfl,rfl,_,_⟩ _|intro _ _ _ _ _ _ _))|(refine sx ?_;intro _ _)|((with_reducible refine g_awp ?_);simp only [g0,g1,g2]))
    exact ⟨rfl, u, rfl, e1, G, by rw [show i = xs.length by omega, List.take_length] at ru; exact ru, ou⟩
theorem s_spec_l11Copy (xs : List Stripe) (hs : xs.length + szs xs ≤ 67108864) : CopyL Tryz.prog n_spec_l11Copy xs := by
  intro v F h r
  refine c_spec_l11Copy _ ?_
  unfold p_spec_l11Copy
  have hsm := r.small
  obtain ⟨re, oe⟩ := empty_own (h := h) (α := Stripe) (w := 2) rfl
  refine vs ?_
  refine aw_upto xs.length (fun i vs h1 => ∃ u G, vs = [u, .int .i64 (i : Int)] ∧ i ≤ xs.length ∧ Ext h h1 ∧ SlRep h1 u (xs.take i) G ∧ Own h.n h1 G) ⟨_, _, rfl, Nat.zero_le _, (Ext.refl _).push _, by rw [List.take_zero]; exact re, oe _ (Nat.le_refl _)⟩ ?_
  rintro i vs h1 _ ⟨u, G, rfl, hi, e1, ru, ou⟩
  have n1 := e1.1
  simp only [g0, g1]
  refine aw_len r ?_
  refine br (fun hlt => ?_) (fun hge => ?_)
  · obtain ⟨x, hx, -, htk⟩ := drop_step (show i < xs.length by omega)
    have hm := szs_mem (List.mem_of_getElem? hx)
    have hx2 : Sz.sz x = x.l.length + szs x.l := rfl
    (repeat' first|refine vs ?_|(refine br ?_ ?_<;>intro _<;>try(exfalso;first|omega|contradiction))|((with_reducible refine g_callf n_spec_l10All ?_);(refine aw_call (s_spec_l10All x.l (by omega) _ _ _ slr_auto) ?_; rintro w2 h2 ⟨e2, G2, q2, o2⟩; have n2 := e2.1; (try simp only [push_n, upd_n] at n2)))|((with_reducible refine g_idx ?_);((first|refine ix ?_|refine ixi ?_|(refine ixg ?_;intro _ _)|(refine ixgi ?_;intro _ _));first|rintro _ _ _ _ _ ⟨rfl,rfl⟩ _|rintro _ _ _ _ _ ⟨_,rfl,_⟩ _|rintro _ _ _ _ _ ⟨_,_,_,_,rfl,rfl,_,_⟩ _|intro _ _ _ _ _ _ _))|(refine sx ?_;intro _ _)|((with_reducible refine g_awp ?_);simp only [g0,g1,g2]))
    have hlen : (xs.take i).length = i := by rw [List.length_take]; omega
    refine app1 (n := h.n) (xs := xs.take i) (Fx := G) (a := x) slr_auto ⟨_, rfl, q2⟩ (own_app (ol_auto) o2 (by omega) dis_auto) om_auto rfl ?_ ?_ ?_
    · rw [hlen]; omega
    · rw [hlen]; omega
    intro u' h' F' ek kp r' o'
    (repeat' first|refine vs ?_|(refine br ?_ ?_<;>intro _<;>try(exfalso;first|omega|contradiction))|((with_reducible refine g_idx ?_);((first|refine ix ?_|refine ixi ?_|(refine ixg ?_;intro _ _)|(refine ixgi ?_;intro _ _));first|rintro _ _ _ _ _ ⟨rfl,rfl⟩ _|rintro _ _ _ _ _ ⟨_,rfl,_⟩ _|rintro _ _ _ _ _ ⟨_,_,_,_,rfl,rfl,_,_⟩ _|intro _ _ _ _ _ _ _))|(refine sx ?_;intro _ _)|((with_reducible refine g_awp ?_);simp only [g0,g1,g2]))
    exact ⟨by omega, u', F', rfl, by omega, ek h ext_auto (Nat.le_refl _), by rw [htk]; exact r', o'⟩
  · (repeat' first|refine vs ?_|(refine br ?_ ?_<;>intro _<;>try(exfalso;first|omega|contradiction))|((with_reducible refine g_idx ?_);((first|refine ix ?_|refine ixi ?_|(refine ixg ?_;intro _ _)|(refine ixgi ?_;intro _ _));first|rintro _ _ _ _ _ ⟨rfl,rfl⟩ _|rintro _ _ _ _ _ ⟨_,rfl,_⟩ _|rintro _ _ _ _ _ ⟨_,_,_,_,rfl,rfl,_,_⟩ _|intro _ _ _ _ _ _ _))|(refine sx ?_;intro _ _)|((with_reducible refine g_awp ?_);simp only [g0,g1,g2]))
    exact ⟨rfl, u, rfl, e1, G, by rw [show i = xs.length by omega, List.take_length] at ru; exact ru, ou⟩
end Go.Proofs.YtekfdoknfcedpaaGreat
end
section
/- What is held: things of a stamp, all trails, bytes, a trail, the oldest one. -/
set_option linter.unusedSimpArgs false
set_option linter.unusedVariables false
set_option maxHeartbeats 1000000
namespace Go.Proofs.YtekfdoknfcedpaaGreat
open Go Go.Ab
section
/- impl.allTrails -/
def p_impl_allTrails (x0 : AV) : Prog := Ln 0 x0 fun a=>.loop [.nils, .int .i64 0] (fun b=>Bn .lss (g b 1) a fun a=>.ite a (Ix 2 x0 (g b 1) fun a=>Ld 2 a fun a=>.op (.alloc [.int .i64 0, .nils]) fun c=>.op (.st 2 c a) fun _=>Lg 1 c fun a=>Cl n_impl_copyTrails [a] fun a=>.op (.app 4 48 (g b 0) a) fun a=>Bn .add (g b 1) (.int .i64 1) fun b=>.leaf 0 [a, b]) (.leaf 2 [g b 0, g b 1])) fun a b=>tsel a 1 (.leaf 1 b) (tsel a 2 (.fin [.val (g b 0)]) .bad)
theorem c_impl_allTrails (x0 : AV) : CC Tryz.prog n_impl_allTrails [x0] (p_impl_allTrails x0) := cc Tryz.func157 [3, 6, 7, 8] (fun _ => [])
/- impl.HeldBytes -/
def p_impl_HeldBytes (x0 : AV) : Prog := Cl n_impl_allTrails [x0] fun a=>Ln 0 a fun b=>.loop [.int .i64 0, .int .i64 0] (fun c=>Bn .lss (g c 1) b fun b=>.ite b (Ix 4 a (g c 1) fun a=>Ld 4 a fun a=>.op (.alloc [.int .i64 0, .int .i64 0, .int .i64 0, .nils]) fun b=>.op (.st 4 b a) fun _=>Ld 4 b fun a=>Cl n_impl_BytesOf [a] fun a=>Bn .add (g c 0) a fun a=>Bn .add (g c 1) (.int .i64 1) fun b=>.leaf 0 [a, b]) (.leaf 2 [g c 0, g c 1])) fun a b=>tsel a 1 (.leaf 1 b) (tsel a 2 (.fin [.val (g b 0)]) .bad)
theorem c_impl_HeldBytes (x0 : AV) : CC Tryz.prog n_impl_HeldBytes [x0] (p_impl_HeldBytes x0) := cc Tryz.func201 [3, 7, 8, 9] (fun _ => [])
/- spec.HeldBytes -/
def p_spec_HeldBytes (x0 : AV) : Prog := .loop [.int .i64 0, .int .i64 0, .tup []] (fun a=>Ln 0 x0 fun b=>Bn .lss (g a 1) b fun b=>.ite b (.loop [g a 0, .int .i64 0] (fun b=>Ix 2 x0 (g a 1) fun c=>Lg 1 c fun c=>Ln 0 c fun c=>Bn .lss (g b 1) c fun c=>.ite c (Ix 2 x0 (g a 1) fun a=>Lg 1 a fun a=>Ix 4 a (g b 1) fun a=>Ld 4 a fun a=>Cl n_spec_BytesOf [a] fun a=>Bn .add (g b 0) a fun a=>Bn .add (g b 1) (.int .i64 1) fun b=>.leaf 0 [a, b]) (.leaf 4 [g b 0, g b 1])) fun b c=>tsel b 1 (.leaf 1 c) (tsel b 4 (Bn .add (g a 1) (.int .i64 1) fun a=>.leaf 0 [g c 0, a, g c 1]) .bad)) (.leaf 2 [g a 0, g a 1, g a 2])) fun a b=>tsel a 1 (.leaf 1 b) (tsel a 2 (.fin [.val (g b 0)]) .bad)
theorem c_spec_HeldBytes (x0 : AV) : CC Tryz.prog n_spec_HeldBytes [x0] (p_spec_HeldBytes x0) := cc Tryz.func101 [0, 3, 4, 5] (fun _ => [])
end
/-! ### All trails -/
def allT (l : List Stripe) : List Trail := l.flatMap (·.l)
theorem allT_s {l : List Stripe} {i : Nat} {x : Stripe} (ht : l.take (i + 1) = l.take i ++ [x]) : allT (l.take (i + 1)) = allT (l.take i) ++ x.l := by rw [ht]; simp [allT]
theorem szs_app {α : Type} [Sz α] : ∀ l r : List α, szs (l ++ r) = szs l + szs r
  | [], r => by simp [szs]
  | x :: l, r => by simp only [List.cons_append, szs, szs_app l]; omega
theorem allT_b : ∀ l : List Stripe, (allT l).length + szs (allT l) ≤ szs l
  | [] => by simp [allT, szs]
  | x :: l => by
    have := allT_b l
    have e : allT (x :: l) = x.l ++ allT l := by simp [allT]
    have h2 : Sz.sz x = x.l.length + szs x.l := rfl
    rw [e, List.length_append, szs_app]; simp only [szs]; omega
theorem s_impl_allTrails {h : AH} {l : List Stripe} {v : AV} {F : List Nat} (hs : l.length + szs l ≤ 67108864) (r : SlRep h v l F) : ACalls Tryz.prog n_impl_allTrails [v] h (NewS Trail h (allT l)) := by
  refine c_impl_allTrails _ ?_
  unfold p_impl_allTrails
  have hsm := r.small
  refine aw_len r ?_
  refine aw_upto l.length (fun i vs h1 => ∃ u G, vs = [u, .int .i64 (i : Int)] ∧ i ≤ l.length ∧ Ext h h1 ∧ SlRep h1 u (allT (l.take i)) G ∧ Own h.n h1 G) ⟨.nils, [], rfl, Nat.zero_le _, Ext.refl _, SlRep.nils, Own.nil⟩ ?_
  rintro i vs h1 _ ⟨u, G, rfl, hi, e1, ru, ou⟩
  have n1 := e1.1
  simp only [g0, g1]
  have hlen := allT_b (l.take i)
  have hle := szs_take_le l i
  refine br (fun hlt => ?_) (fun hge => ?_)
  · obtain ⟨x, hx, -, htk⟩ := drop_step (show i < l.length by omega)
    have hm := szs_mem (List.mem_of_getElem? hx)
    have hx2 : Sz.sz x = x.l.length + szs x.l := rfl
    refine vs ?_
    refine aw_idx r hx rfl ?_
    rintro b o _ Fi a ⟨v0, rfl, r0⟩ _
    (repeat' first|refine vs ?_|(refine br ?_ ?_<;>intro _<;>try(exfalso;first|omega|contradiction))|((with_reducible refine g_callf n_impl_copyTrails ?_);(refine aw_call (s_impl_copyTrails x.l (by omega) _ _ _ slr_auto) ?_; rintro w2 h2 ⟨e2, G2, q2, o2⟩; have n2 := e2.1; (try simp only [push_n, upd_n] at n2)))|((with_reducible refine g_idx ?_);((first|refine ix ?_|refine ixi ?_|(refine ixg ?_;intro _ _)|(refine ixgi ?_;intro _ _));first|rintro _ _ _ _ _ ⟨rfl,rfl⟩ _|rintro _ _ _ _ _ ⟨_,rfl,_⟩ _|rintro _ _ _ _ _ ⟨_,_,_,_,rfl,rfl,_,_⟩ _|intro _ _ _ _ _ _ _))|(refine sx ?_;intro _ _)|((with_reducible refine g_awp ?_);simp only [g0,g1,g2]))
    refine app2' (n := h.n) (xs := allT (l.take i)) (ys := x.l) (Fx := G) (Fy := G2) slr_auto q2 (own_app (ol_auto) o2 om_auto dis_auto) om_auto rfl ?_ ?_ ?_
    · omega
    · omega
    intro u' h' F' ek kp r' o'
    (repeat' first|refine vs ?_|(refine br ?_ ?_<;>intro _<;>try(exfalso;first|omega|contradiction))|((with_reducible refine g_idx ?_);((first|refine ix ?_|refine ixi ?_|(refine ixg ?_;intro _ _)|(refine ixgi ?_;intro _ _));first|rintro _ _ _ _ _ ⟨rfl,rfl⟩ _|rintro _ _ _ _ _ ⟨_,rfl,_⟩ _|rintro _ _ _ _ _ ⟨_,_,_,_,rfl,rfl,_,_⟩ _|intro _ _ _ _ _ _ _))|(refine sx ?_;intro _ _)|((with_reducible refine g_awp ?_);simp only [g0,g1,g2]))
    exact ⟨by omega, u', F', rfl, by omega, ek h ext_auto (Nat.le_refl _), by rw [allT_s htk]; exact r', o'⟩
  · (repeat' first|refine vs ?_|(refine br ?_ ?_<;>intro _<;>try(exfalso;first|omega|contradiction))|((with_reducible refine g_idx ?_);((first|refine ix ?_|refine ixi ?_|(refine ixg ?_;intro _ _)|(refine ixgi ?_;intro _ _));first|rintro _ _ _ _ _ ⟨rfl,rfl⟩ _|rintro _ _ _ _ _ ⟨_,rfl,_⟩ _|rintro _ _ _ _ _ ⟨_,_,_,_,rfl,rfl,_,_⟩ _|intro _ _ _ _ _ _ _))|(refine sx ?_;intro _ _)|((with_reducible refine g_awp ?_);simp only [g0,g1,g2]))
    exact ⟨rfl, u, rfl, e1, G, by rw [show i = l.length by omega, List.take_length] at ru; exact ru, ou⟩

/-! ### Bytes -/
def trailBytes (t : Trail) : Int := sumI spanSize t.spans
theorem trailBytes_b (t : Trail) : 0 ≤ trailBytes t ∧ trailBytes t ≤ 0 + 12 * (Sz.sz t : Nat) := by
  have h := sumI_b spanSize_b t.spans
  have h2 : Sz.sz t = t.spans.length + szs t.spans := rfl
  unfold trailBytes; omega
def held (l : List Stripe) : Int := sumI trailBytes (allT l)
theorem held_b (l : List Stripe) : 0 ≤ held l ∧ held l ≤ 12 * (szs l : Nat) := by
  have h := sumI_b trailBytes_b (allT l)
  have := allT_b l
  unfold held; omega
theorem sumI_tb (l : List Trail) : 0 ≤ sumI trailBytes l ∧ sumI trailBytes l ≤ 12 * (szs l : Nat) := by
  have h := sumI_b trailBytes_b l; omega
theorem s_impl_HeldBytes {h : AH} {l : List Stripe} {v : AV} {F : List Nat} (hs : l.length + szs l ≤ 67108864) (r : SlRep h v l F) : RCalls Tryz.prog n_impl_HeldBytes [v] h (.int .i64 (held l)) := by
  refine reader (c_impl_HeldBytes _) (by simp only [old]) ?_
  unfold p_impl_HeldBytes
  refine aw_call (s_impl_allTrails hs r) ?_
  rintro w1 h1 ⟨e1, G1, q1, o1⟩
  have hall := allT_b l
  refine aw_len q1 ?_
  refine aw_upto (allT l).length (fun i vs h2 => vs = [.int .i64 (sumI trailBytes ((allT l).take i)), .int .i64 (i : Int)] ∧ i ≤ (allT l).length ∧ Ext h1 h2) ⟨by simp [sumI], Nat.zero_le _, Ext.refl _⟩ ?_
  rintro i vs h2 _ ⟨rfl, hi, e2⟩
  simp only [g0, g1]
  have hb := sumI_tb ((allT l).take i)
  have hle := szs_take_le (allT l) i
  refine br (fun hlt => ?_) (fun hge => ?_)
  · obtain ⟨x, hx, -, htk⟩ := drop_step (show i < (allT l).length by omega)
    have hm := szs_mem (List.mem_of_getElem? hx)
    have hxb := trailBytes_b x
    refine vs ?_
    refine aw_idx q1 hx rfl ?_
    rintro b o _ Fi a ⟨v0, rfl, r0⟩ _
    (repeat' first|refine vs ?_|(refine br ?_ ?_<;>intro _<;>try(exfalso;first|omega|contradiction))|((with_reducible refine g_callf n_impl_BytesOf ?_);refine aw_rcall (s_impl_BytesOf (by omega) slr_auto) ?_)|((with_reducible refine g_idx ?_);((first|refine ix ?_|refine ixi ?_|(refine ixg ?_;intro _ _)|(refine ixgi ?_;intro _ _));first|rintro _ _ _ _ _ ⟨rfl,rfl⟩ _|rintro _ _ _ _ _ ⟨_,rfl,_⟩ _|rintro _ _ _ _ _ ⟨_,_,_,_,rfl,rfl,_,_⟩ _|intro _ _ _ _ _ _ _))|(refine sx ?_;intro _ _)|((with_reducible refine g_awp ?_);simp only [g0,g1,g2]))
    refine aw_addn (by unfold trailBytes at *; omega) (by unfold trailBytes at *; omega) ?_
    (repeat' first|refine vs ?_|(refine br ?_ ?_<;>intro _<;>try(exfalso;first|omega|contradiction))|((with_reducible refine g_idx ?_);((first|refine ix ?_|refine ixi ?_|(refine ixg ?_;intro _ _)|(refine ixgi ?_;intro _ _));first|rintro _ _ _ _ _ ⟨rfl,rfl⟩ _|rintro _ _ _ _ _ ⟨_,rfl,_⟩ _|rintro _ _ _ _ _ ⟨_,_,_,_,rfl,rfl,_,_⟩ _|intro _ _ _ _ _ _ _))|(refine sx ?_;intro _ _)|((with_reducible refine g_awp ?_);simp only [g0,g1,g2]))
    exact ⟨by omega, by rw [sumI_take _ htk]; rfl, by omega, ext_auto⟩
  · (repeat' first|refine vs ?_|(refine br ?_ ?_<;>intro _<;>try(exfalso;first|omega|contradiction))|((with_reducible refine g_idx ?_);((first|refine ix ?_|refine ixi ?_|(refine ixg ?_;intro _ _)|(refine ixgi ?_;intro _ _));first|rintro _ _ _ _ _ ⟨rfl,rfl⟩ _|rintro _ _ _ _ _ ⟨_,rfl,_⟩ _|rintro _ _ _ _ _ ⟨_,_,_,_,rfl,rfl,_,_⟩ _|intro _ _ _ _ _ _ _))|(refine sx ?_;intro _ _)|((with_reducible refine g_awp ?_);simp only [g0,g1,g2]))
    refine pi ?_ (e1.trans e2)
    rw [show i = (allT l).length by omega, List.take_length]; rfl
theorem s_spec_HeldBytes {h : AH} {l : List Stripe} {v : AV} {F : List Nat} (hs : l.length + szs l ≤ 67108864) (r : SlRep h v l F) : RCalls Tryz.prog n_spec_HeldBytes [v] h (.int .i64 (held l)) := by
  refine reader (c_spec_HeldBytes _) (by simp only [old]) ?_
  unfold p_spec_HeldBytes
  have hsm := r.small
  refine aw_upto l.length (fun i vs h2 => ∃ z, vs = [.int .i64 (held (l.take i)), .int .i64 (i : Int), z] ∧ i ≤ l.length ∧ Ext h h2) ⟨_, rfl, Nat.zero_le _, Ext.refl _⟩ ?_
  rintro i vs h2 _ ⟨z, rfl, hi, e2⟩
  simp only [g0, g1]
  have hb := held_b (l.take i)
  have hle := szs_take_le l i
  refine aw_len r ?_
  refine br (fun hlt => ?_) (fun hge => ?_)
  · obtain ⟨x, hx, -, htk⟩ := drop_step (show i < l.length by omega)
    have hm := szs_mem (List.mem_of_getElem? hx)
    have hx2 : Sz.sz x = x.l.length + szs x.l := rfl
    have hhs : held (l.take (i + 1)) = held (l.take i) + sumI trailBytes x.l := by unfold held; rw [allT_s htk, sumI_app]
    refine aw_ite_t ?_
    have hsx : x.l.length < 281474976710656 := by omega
    refine aw_upto x.l.length (fun j vs h3 => vs = [.int .i64 (held (l.take i) + sumI trailBytes (x.l.take j)), .int .i64 (j : Int)] ∧ j ≤ x.l.length ∧ Ext h h3) ⟨by simp [sumI], Nat.zero_le _, e2⟩ ?_
    rintro j vs h3 _ ⟨rfl, hj, e3⟩
    simp only [g0, g1]
    have hb2 := sumI_tb (x.l.take j)
    have hle2 := szs_take_le x.l j
    refine aw_idx r hx rfl ?_
    rintro b o _ Fi a ⟨v0, rfl, r0⟩ _
    refine vs ?_
    refine br (fun hlt2 => ?_) (fun hge2 => ?_)
    · obtain ⟨y, hy, -, htk2⟩ := drop_step (show j < x.l.length by omega)
      have hm2 := szs_mem (List.mem_of_getElem? hy)
      have hyb := trailBytes_b y
      (repeat' first|refine vs ?_|(refine br ?_ ?_<;>intro _<;>try(exfalso;first|omega|contradiction))|((with_reducible refine g_callf n_spec_BytesOf ?_);refine aw_rcall (s_spec_BytesOf (by omega) slr_auto) ?_)|((with_reducible refine g_idx ?_);((first|refine ix ?_|refine ixi ?_|(refine ixg ?_;intro _ _)|(refine ixgi ?_;intro _ _));first|rintro _ _ _ _ _ ⟨rfl,rfl⟩ _|rintro _ _ _ _ _ ⟨_,rfl,_⟩ _|rintro _ _ _ _ _ ⟨_,_,_,_,rfl,rfl,_,_⟩ _|intro _ _ _ _ _ _ _))|(refine sx ?_;intro _ _)|((with_reducible refine g_awp ?_);simp only [g0,g1,g2]))
      refine aw_addn (by unfold trailBytes at *; omega) (by unfold trailBytes at *; omega) ?_
      (repeat' first|refine vs ?_|(refine br ?_ ?_<;>intro _<;>try(exfalso;first|omega|contradiction))|((with_reducible refine g_idx ?_);((first|refine ix ?_|refine ixi ?_|(refine ixg ?_;intro _ _)|(refine ixgi ?_;intro _ _));first|rintro _ _ _ _ _ ⟨rfl,rfl⟩ _|rintro _ _ _ _ _ ⟨_,rfl,_⟩ _|rintro _ _ _ _ _ ⟨_,_,_,_,rfl,rfl,_,_⟩ _|intro _ _ _ _ _ _ _))|(refine sx ?_;intro _ _)|((with_reducible refine g_awp ?_);simp only [g0,g1,g2]))
      exact ⟨by omega, by rw [sumI_take _ htk2, Int.add_assoc]; rfl, by omega, ext_auto⟩
    · (repeat' first|refine vs ?_|(refine br ?_ ?_<;>intro _<;>try(exfalso;first|omega|contradiction))|((with_reducible refine g_idx ?_);((first|refine ix ?_|refine ixi ?_|(refine ixg ?_;intro _ _)|(refine ixgi ?_;intro _ _));first|rintro _ _ _ _ _ ⟨rfl,rfl⟩ _|rintro _ _ _ _ _ ⟨_,rfl,_⟩ _|rintro _ _ _ _ _ ⟨_,_,_,_,rfl,rfl,_,_⟩ _|intro _ _ _ _ _ _ _))|(refine sx ?_;intro _ _)|((with_reducible refine g_awp ?_);simp only [g0,g1,g2]))
      exact ⟨by omega, _, by rw [hhs, show j = x.l.length by omega, List.take_length]; rfl, by omega, ext_auto⟩
  · (repeat' first|refine vs ?_|(refine br ?_ ?_<;>intro _<;>try(exfalso;first|omega|contradiction))|((with_reducible refine g_idx ?_);((first|refine ix ?_|refine ixi ?_|(refine ixg ?_;intro _ _)|(refine ixgi ?_;intro _ _));first|rintro _ _ _ _ _ ⟨rfl,rfl⟩ _|rintro _ _ _ _ _ ⟨_,rfl,_⟩ _|rintro _ _ _ _ _ ⟨_,_,_,_,rfl,rfl,_,_⟩ _|intro _ _ _ _ _ _ _))|(refine sx ?_;intro _ _)|((with_reducible refine g_awp ?_);simp only [g0,g1,g2]))
    refine pi ?_ ext_auto
    rw [show i = l.length by omega, List.take_length]
end Go.Proofs.YtekfdoknfcedpaaGreat
end
section
/- A trail that is found; the oldest one. -/
set_option linter.unusedSimpArgs false
set_option linter.unusedVariables false
set_option maxHeartbeats 1000000
namespace Go.Proofs.YtekfdoknfcedpaaGreat
open Go Go.Ab
section
/- impl.FindTrail -/
/- spec.FindTrail -/
/- impl.Older -/
/- spec.Older -/
/- impl.OldestOf -/
/- spec.OldestOf -/
end
/-! ### The oldest trail -/
def older (a b : Trail) : Prop := a.first < b.first ∨ (a.first = b.first ∧ a.stamp < b.stamp)
noncomputable def oldStep (b : Option Trail) (t : Trail) : Option Trail := match b with
  | none => some t
  | some b => if bp (older t b) = true then some t else some b
noncomputable def oldest (l : List Trail) : Option Trail := l.foldl oldStep none
end Go.Proofs.YtekfdoknfcedpaaGreat
end
section
/- A trail is dropped. -/
set_option linter.unusedSimpArgs false
set_option linter.unusedVariables false
set_option maxHeartbeats 1000000
namespace Go.Proofs.YtekfdoknfcedpaaGreat
open Go Go.Ab
section
/- slices.Delete[[]impl.Trail,impl.Trail] -/
/- impl.DropTrail -/
/- spec.DropTrail -/
end
section
variable {P : Program} {h : AH} {Q : Nat → List AV → AH → Prop} {k : AV → Prog}
theorem aw_nilck {b o : Nat} (hk : (k (.ptr b o)).awp P h Q) : (Prog.op (.nilck (.ptr b o)) k).awp P h Q := hk
end
end Go.Proofs.YtekfdoknfcedpaaGreat
end
section
/- Which stripes may be. -/
set_option linter.unusedSimpArgs false
set_option linter.unusedVariables false
set_option maxHeartbeats 2000000
namespace Go.Proofs.YtekfdoknfcedpaaGreat
open Go Go.Ab
section
/- slices.Index[[]int,int] -/
def p_slices_Index_int (x0 x1 : AV) : Prog := Ln 0 x0 fun a=>.loop [.int .i64 0] (fun b=>Bn .lss (g b 0) a fun a=>.ite a (Ix 1 x0 (g b 0) fun a=>.op (.ld1 a) fun a=>Bn .eql x1 a fun a=>.ite a (.fin [.val (g b 0)]) (Bn .add (g b 0) (.int .i64 1) fun a=>.leaf 0 [a])) (.leaf 2 [g b 0])) fun a b=>tsel a 1 (.leaf 1 b) (tsel a 2 (.fin [.val (.int .i64 (-1))]) .bad)
theorem c_slices_Index_int (x0 x1 : AV) : CC Tryz.prog n_slices_Index_int [x0, x1] (p_slices_Index_int x0 x1) := cc Tryz.func316 [0, 1, 7, 8] (fun _ => [])
/- slices.Contains[[]int,int] -/
def p_slices_Contains_int (x0 x1 : AV) : Prog := Cl n_slices_Index_int [x0, x1] fun a=>Bn .geq a (.int .i64 0) fun a=>.fin [.val a]
theorem c_slices_Contains_int (x0 x1 : AV) : CC Tryz.prog n_slices_Contains_int [x0, x1] (p_slices_Contains_int x0 x1) := cc Tryz.func268
/- spec.l11Has -/
def p_spec_l11Has (x0 x1 : AV) : Prog := .loop [.int .i64 0] (fun a=>Ln 0 x0 fun b=>Bn .lss (g a 0) b fun b=>.ite b (Ix 1 x0 (g a 0) fun b=>.op (.ld1 b) fun b=>Bn .eql b x1 fun b=>.ite b (.fin [.val (.bool true)]) (Bn .add (g a 0) (.int .i64 1) fun a=>.leaf 0 [a])) (.leaf 2 [g a 0])) fun a b=>tsel a 1 (.leaf 1 b) (tsel a 2 (.fin [.val (.bool false)]) .bad)
theorem c_spec_l11Has (x0 x1 : AV) : CC Tryz.prog n_spec_l11Has [x0, x1] (p_spec_l11Has x0 x1) := cc Tryz.func175 [0, 1, 5] (fun _ => [])
/- impl.StripesOk -/
def p_impl_StripesOk (x0 : AV) : Prog := Ln 0 x0 fun a=>Cl n_impl_within [a, .int .i64 1, .int .i64 3] fun a=>.op (.una .not a) fun a=>.ite a (.fin [.val (.bool false)]) (Ln 0 x0 fun a=>.loop [.nils, .tup [], .tup [], .int .i64 0, .tup [], .tup [], .tup []] (fun b=>Bn .lss (g b 3) a fun a=>.ite a (Ix 2 x0 (g b 3) fun a=>Ld 2 a fun a=>.op (.alloc [.int .i64 0, .nils]) fun c=>.op (.st 2 c a) fun _=>Lg 0 c fun a=>Cl n_impl_within [a, .int .i64 (-1), .int .i64 4] fun a=>.op (.una .not a) fun a=>.ite a (.fin [.val (.bool false)]) (Lg 1 c fun a=>Ln 0 a fun d=>.loop [g b 0, .int .i64 0] (fun e=>Bn .lss (g e 1) d fun d=>.ite d (Ix 4 a (g e 1) fun a=>Ld 4 a fun a=>.op (.alloc [.int .i64 0, .int .i64 0, .int .i64 0, .nils]) fun d=>.op (.st 4 d a) fun _=>Ld 4 d fun a=>Cl n_impl_TrailOk [a] fun a=>.op (.una .not a) fun a=>Gf a false 0 d fun f=>.gop a false (.mv x0) fun i=>.gop a false (.len 0 i) fun i=>.gop a false (.mv (g b 3)) fun b=>.gop a false (.call n_impl_StripeOf [f, i]) fun f=>.gop a false (.bin 0 .neq f b) fun b=>Pk a (.bool true) b fun a=>.gop a false (.mv (g e 1)) fun b=>.gop a false (.bin 0 .gtr b (.int .i64 0)) fun b=>.gop a false (.mv b) fun b=>Gf b true 1 c fun c=>.gop b true (.mv (g e 1)) fun f=>.gop b true (.bin 0 .sub f (.int .i64 1)) fun f=>.gop b true (.idx 4 c f) fun c=>Gf b true 0 c fun c=>Gf b true 0 d fun f=>.gop b true (.bin 0 .geq c f) fun c=>.gop a false (.pick b c (.bool false)) fun b=>Pk a (.bool true) b fun a=>.gop a false (.mv (g e 0)) fun b=>Gf a false 1 d fun c=>.gop a false (.call n_slices_Contains_int [b, c]) fun b=>Pk a (.bool true) b fun a=>.ite a (.fin [.val (.bool false)]) (Lg 1 d fun a=>.op (.bslice 1 1 [.int .i64 0] [(0, 1, a)]) fun a=>.op (.app 1 8 (g e 0) a) fun a=>Bn .add (g e 1) (.int .i64 1) fun b=>.leaf 0 [a, b])) (.leaf 4 [g e 0, g e 1])) fun e f=>tsel e 1 (.leaf 1 f) (tsel e 4 (Bn .add (g b 3) (.int .i64 1) fun e=>.leaf 0 [g f 0, g b 3, c, e, a, d, g f 1]) .bad))) (.leaf 2 [g b 0, g b 1, g b 2, g b 3, g b 4, g b 5, g b 6])) fun a b=>tsel a 1 (.leaf 1 b) (tsel a 2 (.fin [.val (.bool true)]) .bad))
theorem c_impl_StripesOk (x0 : AV) : CC Tryz.prog n_impl_StripesOk [x0] (p_impl_StripesOk x0) := cc Tryz.func196 [0, 3, 4, 5, 12, 13, 14, 24, 25, 26] (fun r => if r = 12 then [(0, []), (1, []), (2, []), (3, []), (4, []), (5, []), (6, []), (7, []), (9, []), (8, []), (10, []), (11, []), (12, []), (13, []), (14, []), (15, []), (16, []), (17, []), (18, []), (19, []), (20, []), (21, []), (22, []), (23, []), (24, []), (25, []), (26, []), (27, []), (28, []), (29, []), (30, []), (31, []), (32, []), (33, [])] else [])
/- spec.StripesOk -/
def p_spec_StripesOk (x0 : AV) : Prog := Ln 0 x0 fun a=>Cl n_spec_l1In [a, .int .i64 1, .int .i64 3] fun a=>.op (.una .not a) fun a=>.ite a (.fin [.val (.bool false)]) (.op (.bslice 1 0 [] []) fun a=>.loop [a, .int .i64 0, .tup []] (fun a=>Ln 0 x0 fun b=>Bn .lss (g a 1) b fun b=>.ite b (Ix 2 x0 (g a 1) fun b=>Lg 0 b fun b=>Cl n_spec_l1In [b, .int .i64 (-1), .int .i64 4] fun b=>.op (.una .not b) fun b=>.ite b (.fin [.val (.bool false)]) (.loop [g a 0, .int .i64 0] (fun b=>Ix 2 x0 (g a 1) fun c=>Lg 1 c fun c=>Ln 0 c fun c=>Bn .lss (g b 1) c fun c=>.ite c (Ix 2 x0 (g a 1) fun c=>Lg 1 c fun c=>Ix 4 c (g b 1) fun c=>Ld 4 c fun c=>.op (.alloc [.int .i64 0, .int .i64 0, .int .i64 0, .nils]) fun d=>.op (.st 4 d c) fun _=>Ld 4 d fun c=>Cl n_spec_TrailOk [c] fun c=>.op (.una .not c) fun c=>Gf c false 0 d fun e=>.gop c false (.mv x0) fun f=>.gop c false (.len 0 f) fun f=>.gop c false (.mv (g a 1)) fun i=>.gop c false (.call n_spec_StripeOf [e, f]) fun e=>.gop c false (.bin 0 .neq e i) fun e=>Pk c (.bool true) e fun c=>.gop c false (.mv (g b 1)) fun e=>.gop c false (.bin 0 .gtr e (.int .i64 0)) fun e=>.gop c false (.mv e) fun e=>.gop e true (.mv x0) fun f=>.gop e true (.mv (g a 1)) fun a=>.gop e true (.idx 2 f a) fun a=>Gf e true 1 a fun a=>.gop e true (.mv (g b 1)) fun f=>.gop e true (.bin 0 .sub f (.int .i64 1)) fun f=>.gop e true (.idx 4 a f) fun a=>Gf e true 0 a fun a=>Gf e true 0 d fun f=>.gop e true (.bin 0 .geq a f) fun a=>.gop c false (.pick e a (.bool false)) fun a=>Pk c (.bool true) a fun a=>.gop a false (.mv (g b 0)) fun c=>Gf a false 1 d fun e=>.gop a false (.call n_spec_l11Has [c, e]) fun c=>Pk a (.bool true) c fun a=>.ite a (.fin [.val (.bool false)]) (Lg 1 d fun a=>.op (.bslice 1 1 [.int .i64 0] [(0, 1, a)]) fun a=>.op (.app 1 8 (g b 0) a) fun a=>Bn .add (g b 1) (.int .i64 1) fun b=>.leaf 0 [a, b])) (.leaf 4 [g b 0, g b 1])) fun b c=>tsel b 1 (.leaf 1 c) (tsel b 4 (Bn .add (g a 1) (.int .i64 1) fun a=>.leaf 0 [g c 0, a, g c 1]) .bad))) (.leaf 2 [g a 0, g a 1, g a 2])) fun a b=>tsel a 1 (.leaf 1 b) (tsel a 2 (.fin [.val (.bool true)]) .bad))
theorem c_spec_StripesOk (x0 : AV) : CC Tryz.prog n_spec_StripesOk [x0] (p_spec_StripesOk x0) := cc Tryz.func98 [0, 3, 4, 5] (fun r => if r = 13 then [(0, []), (1, []), (2, []), (3, []), (4, []), (5, []), (6, []), (7, []), (9, []), (8, []), (10, []), (11, []), (12, []), (13, []), (14, []), (15, []), (16, []), (17, []), (18, []), (19, []), (20, []), (21, []), (22, []), (23, []), (24, []), (25, []), (26, []), (27, []), (28, []), (29, []), (30, []), (31, []), (32, []), (33, []), (34, []), (35, []), (36, [])] else [])
end
theorem s_slices_Index_int {h : AH} {xs : List Int} {v : AV} {F : List Nat} {n : Int} (r : SlRep h v xs F) : RCalls Tryz.prog n_slices_Index_int [v, .int .i64 n] h (.int .i64 (idx (fun y => decide (n = y)) xs)) := by
  refine reader (c_slices_Index_int _ _) (by simp only [old]) ?_
  unfold p_slices_Index_int
  have hsm := r.small
  refine aw_len r ?_
  refine aw_upto xs.length (fun i vs h1 => vs = [.int .i64 (i : Int)] ∧ i ≤ xs.length ∧ h1 = h ∧ Upto xs (fun _ y => decide (n = y) = false) i) ⟨rfl, Nat.zero_le _, rfl, up0⟩ ?_
  rintro i vs h1 _ ⟨rfl, hi, rfl, hu⟩
  simp only [g0]
  refine br (fun hlt => ?_) (fun hge => ?_)
  · obtain ⟨x, hx, -, -⟩ := drop_step (show i < xs.length by omega)
    (repeat' first|refine vs ?_|(refine br ?_ ?_<;>intro _<;>try(exfalso;first|omega|contradiction))|((with_reducible refine g_idx ?_);((first|refine ix ?_|refine ixi ?_|(refine ixg ?_;intro _ _)|(refine ixgi ?_;intro _ _));first|rintro _ _ _ _ _ ⟨rfl,rfl⟩ _|rintro _ _ _ _ _ ⟨_,rfl,_⟩ _|rintro _ _ _ _ _ ⟨_,_,_,_,rfl,rfl,_,_⟩ _|intro _ _ _ _ _ _ _))|(refine sx ?_;intro _ _)|((with_reducible refine g_awp ?_);simp only [g0,g1,g2]))
    · rename_i he
      exact pi (idx_at hx (by simp [he]) fun j y hj hy => hu j y hj hy).symm
    · rename_i he
      exact ⟨by omega, rfl, by omega, rfl, upS hu hx (by simp [he])⟩
  · (repeat' first|refine vs ?_|(refine br ?_ ?_<;>intro _<;>try(exfalso;first|omega|contradiction))|((with_reducible refine g_idx ?_);((first|refine ix ?_|refine ixi ?_|(refine ixg ?_;intro _ _)|(refine ixgi ?_;intro _ _));first|rintro _ _ _ _ _ ⟨rfl,rfl⟩ _|rintro _ _ _ _ _ ⟨_,rfl,_⟩ _|rintro _ _ _ _ _ ⟨_,_,_,_,rfl,rfl,_,_⟩ _|intro _ _ _ _ _ _ _))|(refine sx ?_;intro _ _)|((with_reducible refine g_awp ?_);simp only [g0,g1,g2]))
    exact pi (idx_no fun j y hj hy => hu j y (by omega) hy).symm
theorem s_slices_Contains_int {h : AH} {xs : List Int} {v : AV} {F : List Nat} {n : Int} (r : SlRep h v xs F) : RCalls Tryz.prog n_slices_Contains_int [v, .int .i64 n] h (.bool (bp (n ∈ xs))) := by
  refine reader (c_slices_Contains_int _ _) (by simp only [old]) ?_
  unfold p_slices_Contains_int
  (repeat' first|refine vs ?_|(refine br ?_ ?_<;>intro _<;>try(exfalso;first|omega|contradiction))|((with_reducible refine g_callf n_slices_Index_int ?_);refine aw_rcall (s_slices_Index_int slr_auto) ?_)|((with_reducible refine g_idx ?_);((first|refine ix ?_|refine ixi ?_|(refine ixg ?_;intro _ _)|(refine ixgi ?_;intro _ _));first|rintro _ _ _ _ _ ⟨rfl,rfl⟩ _|rintro _ _ _ _ _ ⟨_,rfl,_⟩ _|rintro _ _ _ _ _ ⟨_,_,_,_,rfl,rfl,_,_⟩ _|intro _ _ _ _ _ _ _))|(refine sx ?_;intro _ _)|((with_reducible refine g_awp ?_);simp only [g0,g1,g2]))
  · rename_i hge
    rcases idx_cases (fun y => decide (n = y)) xs with ⟨e, -⟩ | ⟨i, x, e, hx, hp, -⟩
    · omega
    · exact pt (by simp at hp; subst hp; exact List.mem_of_getElem? hx)
  · rename_i hlt
    rcases idx_cases (fun y => decide (n = y)) xs with ⟨e, hf⟩ | ⟨i, x, e, hx, hp, -⟩
    · refine pf fun hm => ?_
      rw [List.filter_eq_self] at hf
      have := hf n hm; simp at this
    · omega
theorem s_spec_l11Has {h : AH} {xs : List Int} {v : AV} {F : List Nat} {n : Int} (r : SlRep h v xs F) : RCalls Tryz.prog n_spec_l11Has [v, .int .i64 n] h (.bool (bp (n ∈ xs))) := by
  refine reader (c_spec_l11Has _ _) (by simp only [old]) ?_
  unfold p_spec_l11Has
  have hsm := r.small
  refine aw_upto xs.length (fun i vs h1 => vs = [.int .i64 (i : Int)] ∧ i ≤ xs.length ∧ h1 = h ∧ Upto xs (fun _ y => ¬ y = n) i) ⟨rfl, Nat.zero_le _, rfl, up0⟩ ?_
  rintro i vs h1 _ ⟨rfl, hi, rfl, hu⟩
  simp only [g0]
  refine aw_len r ?_
  refine br (fun hlt => ?_) (fun hge => ?_)
  · obtain ⟨x, hx, -, -⟩ := drop_step (show i < xs.length by omega)
    (repeat' first|refine vs ?_|(refine br ?_ ?_<;>intro _<;>try(exfalso;first|omega|contradiction))|((with_reducible refine g_idx ?_);((first|refine ix ?_|refine ixi ?_|(refine ixg ?_;intro _ _)|(refine ixgi ?_;intro _ _));first|rintro _ _ _ _ _ ⟨rfl,rfl⟩ _|rintro _ _ _ _ _ ⟨_,rfl,_⟩ _|rintro _ _ _ _ _ ⟨_,_,_,_,rfl,rfl,_,_⟩ _|intro _ _ _ _ _ _ _))|(refine sx ?_;intro _ _)|((with_reducible refine g_awp ?_);simp only [g0,g1,g2]))
    · rename_i he
      exact pt (by subst he; exact List.mem_of_getElem? hx)
    · rename_i he
      exact ⟨by omega, rfl, by omega, rfl, upS hu hx he⟩
  · (repeat' first|refine vs ?_|(refine br ?_ ?_<;>intro _<;>try(exfalso;first|omega|contradiction))|((with_reducible refine g_idx ?_);((first|refine ix ?_|refine ixi ?_|(refine ixg ?_;intro _ _)|(refine ixgi ?_;intro _ _));first|rintro _ _ _ _ _ ⟨rfl,rfl⟩ _|rintro _ _ _ _ _ ⟨_,rfl,_⟩ _|rintro _ _ _ _ _ ⟨_,_,_,_,rfl,rfl,_,_⟩ _|intro _ _ _ _ _ _ _))|(refine sx ?_;intro _ _)|((with_reducible refine g_awp ?_);simp only [g0,g1,g2]))
    rw [show i = xs.length by omega] at hu
    exact pf fun hm => upAll hu n hm rfl

def trOk (l : List Stripe) (i : Nat) (x : Stripe) (k : Nat) (t : Trail) : Prop := trailOk t ∧ stripe t.id l.length = i ∧ (∀ u, 0 < k → x.l[((k : Int) - 1).toNat]? = some u → ¬ t.id ≤ u.id) ∧ t.stamp ∉ (allT (l.take i) ++ x.l.take k).map (·.stamp)
def strOk (l : List Stripe) (i : Nat) (x : Stripe) : Prop := (-1 ≤ x.held ∧ x.held ≤ 4) ∧ ∀ k t, x.l[k]? = some t → trOk l i x k t
def stripesOk (l : List Stripe) : Prop := (1 ≤ (l.length : Int) ∧ (l.length : Int) ≤ 3) ∧ ∀ i x, l[i]? = some x → strOk l i x
def stamps (l : List Stripe) (i : Nat) (x : Stripe) (k : Nat) : List Int := (allT (l.take i) ++ x.l.take k).map (·.stamp)
theorem stamps_s {l : List Stripe} {i : Nat} {x : Stripe} {k : Nat} {t : Trail} (ht : x.l.take (k + 1) = x.l.take k ++ [t]) : stamps l i x (k + 1) = stamps l i x k ++ [t.stamp] := by unfold stamps; rw [ht, ← List.append_assoc, List.map_append]; rfl
theorem stamps_e {l : List Stripe} {i : Nat} {x : Stripe} (ht : l.take (i + 1) = l.take i ++ [x]) : stamps l i x x.l.length = (allT (l.take (i + 1))).map (·.stamp) := by unfold stamps; rw [allT_s ht, List.take_length]
theorem stamps_len (l : List Stripe) (i : Nat) (x : Stripe) (k : Nat) : (stamps l i x k).length ≤ szs (l.take i) + x.l.length := by
  have := allT_b (l.take i)
  unfold stamps; rw [List.length_map, List.length_append, List.length_take]; omega
theorem s_impl_StripesOk {h : AH} {l : List Stripe} {v : AV} {F : List Nat} (ok : ∀ x ∈ l, Cel.ok x) (hs : l.length + szs l ≤ 67108864) (r : SlRep h v l F) : RCalls Tryz.prog n_impl_StripesOk [v] h (.bool (bp (stripesOk l))) := by
  refine reader (c_impl_StripesOk _) (by simp only [old]) ?_
  unfold p_impl_StripesOk
  have hsm := r.small
  (repeat' first|refine vs ?_|(refine br ?_ ?_<;>intro _<;>try(exfalso;first|omega|contradiction))|((with_reducible refine g_callf n_impl_within ?_);(refine aw_rcall_b s_impl_within ?_ ?_ <;> intro hb <;> first | replace hb := inB_t hb | replace hb := inB_f hb))|((with_reducible refine g_idx ?_);((first|refine ix ?_|refine ixi ?_|(refine ixg ?_;intro _ _)|(refine ixgi ?_;intro _ _));first|rintro _ _ _ _ _ ⟨rfl,rfl⟩ _|rintro _ _ _ _ _ ⟨_,rfl,_⟩ _|rintro _ _ _ _ _ ⟨_,_,_,_,rfl,rfl,_,_⟩ _|intro _ _ _ _ _ _ _))|(refine sx ?_;intro _ _)|((with_reducible refine g_awp ?_);simp only [g0,g1,g2]))
  rotate_left
  · exact pf (fun k => by have := k.1; omega)
  refine aw_upto l.length (fun i vs h1 => ∃ u G z1 z2 z4 z5 z6, vs = [u, z1, z2, .int .i64 (i : Int), z4, z5, z6] ∧ i ≤ l.length ∧ Ext h h1 ∧ SlRep h1 u ((allT (l.take i)).map (·.stamp)) G ∧ Own h.n h1 G ∧ Upto l (strOk l) i) ⟨.nils, [], _, _, _, _, _, rfl, Nat.zero_le _, Ext.refl _, SlRep.nils, Own.nil, up0⟩ ?_
  rintro i vs h1 _ ⟨u, G, z1, z2, z4, z5, z6, rfl, hi, e1, ru, ou, hu⟩
  have n1 := e1.1
  simp only [g0, g3]
  refine br (fun hlt => ?_) (fun hge => ?_)
  · obtain ⟨x, hx, -, htk⟩ := drop_step (show i < l.length by omega)
    have hxm := List.mem_of_getElem? hx
    have hm := szs_mem hxm
    have hx2 : Sz.sz x = x.l.length + szs x.l := rfl
    have okx := ok x hxm
    refine vs ?_
    refine aw_idx r hx rfl ?_
    rintro b o _ Fi a ⟨v0, rfl, r0⟩ _
    (repeat' first|refine vs ?_|(refine br ?_ ?_<;>intro _<;>try(exfalso;first|omega|contradiction))|((with_reducible refine g_callf n_impl_within ?_);(refine aw_rcall_b s_impl_within ?_ ?_ <;> intro hb <;> first | replace hb := inB_t hb | replace hb := inB_f hb))|((with_reducible refine g_idx ?_);((first|refine ix ?_|refine ixi ?_|(refine ixg ?_;intro _ _)|(refine ixgi ?_;intro _ _));first|rintro _ _ _ _ _ ⟨rfl,rfl⟩ _|rintro _ _ _ _ _ ⟨_,rfl,_⟩ _|rintro _ _ _ _ _ ⟨_,_,_,_,rfl,rfl,_,_⟩ _|intro _ _ _ _ _ _ _))|(refine sx ?_;intro _ _)|((with_reducible refine g_awp ?_);simp only [g0,g1,g2]))
    rotate_left
    · exact pf (fun k => by have := (k.2 i x hx).1; omega)
    have hle := szs_take_le l i
    refine aw_upto x.l.length (fun k vs h2 => ∃ u G, vs = [u, .int .i64 (k : Int)] ∧ k ≤ x.l.length ∧ Ext h h2 ∧ Bk h2 h1.n [.int .i64 x.held, v0] 0 ∧ h1.n ∉ G ∧ SlRep h2 u (stamps l i x k) G ∧ Own h.n h2 G ∧ Upto x.l (trOk l i x) k) ⟨u, G, rfl, Nat.zero_le _, ext_auto, bk_auto, nin_lt ru (Nat.le_refl _), by unfold stamps; rw [List.take_zero, List.append_nil]; exact slr_auto, ol_auto, up0⟩ ?_
    rintro k vs h2 _ ⟨u2, G2, rfl, hk, e2, bk2, nb2, ru2, ou2, hu2⟩
    have n2 := e2.1
    have nb := bk2.1
    simp only [g0, g1]
    refine br (fun hlt2 => ?_) (fun hge2 => ?_)
    · obtain ⟨t, ht, -, htk2⟩ := drop_step (show k < x.l.length by omega)
      have htm := List.mem_of_getElem? ht
      have hm2 := szs_mem htm
      have okt := okx.2 t htm
      have hsl := stamps_len l i x k
      (repeat' first|refine vs ?_|(refine br ?_ ?_<;>intro _<;>try(exfalso;first|omega|contradiction))|((with_reducible refine g_callf n_impl_TrailOk ?_);(refine aw_rcall_b (s_impl_TrailOk okt.2.2.2 (by omega) slr_auto) ?_ ?_ <;> intro hn <;> first | replace hn := bp_true hn | replace hn := bp_false hn))|((with_reducible refine g_callf n_impl_StripeOf ?_);refine aw_rcall s_impl_StripeOf ?_)|((with_reducible refine g_callf n_slices_Contains_int ?_);(refine aw_rcall_b (s_slices_Contains_int slr_auto) ?_ ?_ <;> intro hc <;> first | replace hc := bp_true hc | replace hc := bp_false hc))|((with_reducible refine g_idx ?_);((first|refine ix ?_|refine ixi ?_|(refine ixg ?_;intro _ _)|(refine ixgi ?_;intro _ _));first|rintro _ _ _ _ _ ⟨rfl,rfl⟩ _|rintro _ _ _ _ _ ⟨_,rfl,_⟩ _|rintro _ _ _ _ _ ⟨_,_,_,_,rfl,rfl,_,_⟩ _|intro _ _ _ _ _ _ _))|(refine sx ?_;intro _ _)|((with_reducible refine g_awp ?_);simp only [g0,g1,g2]))
      all_goals first
        | (refine pf fun k1 => ?_; have k1 := (k1.2 i x hx).2 k t ht; obtain ⟨a1, a2, a3, a4⟩ := k1; first | contradiction | omega | exact a4 (by assumption) | exact a3 _ (by omega) (by assumption) (by omega))
        | skip
      all_goals
        refine app1F (n := h.n) (xs := stamps l i x k) (Fx := G2) (a := t.stamp) slr_auto ⟨rfl, rfl⟩ (by rw [List.append_nil]; exact ol_auto) om_auto rfl ?_ ?_ ?_
        · omega
        · omega
        intro u' h' F' ek kp r' o' hF'
        (repeat' first|refine vs ?_|(refine br ?_ ?_<;>intro _<;>try(exfalso;first|omega|contradiction))|((with_reducible refine g_idx ?_);((first|refine ix ?_|refine ixi ?_|(refine ixg ?_;intro _ _)|(refine ixgi ?_;intro _ _));first|rintro _ _ _ _ _ ⟨rfl,rfl⟩ _|rintro _ _ _ _ _ ⟨_,rfl,_⟩ _|rintro _ _ _ _ _ ⟨_,_,_,_,rfl,rfl,_,_⟩ _|intro _ _ _ _ _ _ _))|(refine sx ?_;intro _ _)|((with_reducible refine g_awp ?_);simp only [g0,g1,g2]))
        refine ⟨by omega, u', F', rfl, by omega, ek h ext_auto (Nat.le_refl _), bk_kp1 kp bk_auto nb2, fun hc => ?_, by rw [stamps_s htk2]; exact r', o', upS hu2 ht ⟨by assumption, by omega, fun u h0 hu => ?_, by assumption⟩⟩
        · rcases hF' _ hc with hc | hc | hc
          · exact nb2 hc
          · cases hc
          · simp only [push_n] at hc; omega
        · first
          | (exfalso; omega)
          | (simp_all; done)
          | (simp_all; omega)
    · (repeat' first|refine vs ?_|(refine br ?_ ?_<;>intro _<;>try(exfalso;first|omega|contradiction))|((with_reducible refine g_idx ?_);((first|refine ix ?_|refine ixi ?_|(refine ixg ?_;intro _ _)|(refine ixgi ?_;intro _ _));first|rintro _ _ _ _ _ ⟨rfl,rfl⟩ _|rintro _ _ _ _ _ ⟨_,rfl,_⟩ _|rintro _ _ _ _ _ ⟨_,_,_,_,rfl,rfl,_,_⟩ _|intro _ _ _ _ _ _ _))|(refine sx ?_;intro _ _)|((with_reducible refine g_awp ?_);simp only [g0,g1,g2]))
      have e : k = x.l.length := by omega
      rw [e, stamps_e htk] at ru2
      rw [e] at hu2
      exact ⟨by omega, u2, G2, _, _, _, _, _, rfl, by omega, ext_auto, ru2, ou2, upS hu hx ⟨by omega, fun k t ht => upEnd hu2 k t ht⟩⟩
  · (repeat' first|refine vs ?_|(refine br ?_ ?_<;>intro _<;>try(exfalso;first|omega|contradiction))|((with_reducible refine g_idx ?_);((first|refine ix ?_|refine ixi ?_|(refine ixg ?_;intro _ _)|(refine ixgi ?_;intro _ _));first|rintro _ _ _ _ _ ⟨rfl,rfl⟩ _|rintro _ _ _ _ _ ⟨_,rfl,_⟩ _|rintro _ _ _ _ _ ⟨_,_,_,_,rfl,rfl,_,_⟩ _|intro _ _ _ _ _ _ _))|(refine sx ?_;intro _ _)|((with_reducible refine g_awp ?_);simp only [g0,g1,g2]))
    rw [show i = l.length by omega] at hu
    exact pt ⟨by omega, fun i x hx => upEnd hu i x hx⟩
theorem s_spec_StripesOk {h : AH} {l : List Stripe} {v : AV} {F : List Nat} (ok : ∀ x ∈ l, Cel.ok x) (hs : l.length + szs l ≤ 67108864) (r : SlRep h v l F) : RCalls Tryz.prog n_spec_StripesOk [v] h (.bool (bp (stripesOk l))) := by
  refine reader (c_spec_StripesOk _) (by simp only [old]) ?_
  unfold p_spec_StripesOk
  have hsm := r.small
  (repeat' first|refine vs ?_|(refine br ?_ ?_<;>intro _<;>try(exfalso;first|omega|contradiction))|((with_reducible refine g_callf n_spec_l1In ?_);(refine aw_rcall_b s_spec_l1In ?_ ?_ <;> intro hb <;> first | replace hb := inB_t hb | replace hb := inB_f hb))|((with_reducible refine g_idx ?_);((first|refine ix ?_|refine ixi ?_|(refine ixg ?_;intro _ _)|(refine ixgi ?_;intro _ _));first|rintro _ _ _ _ _ ⟨rfl,rfl⟩ _|rintro _ _ _ _ _ ⟨_,rfl,_⟩ _|rintro _ _ _ _ _ ⟨_,_,_,_,rfl,rfl,_,_⟩ _|intro _ _ _ _ _ _ _))|(refine sx ?_;intro _ _)|((with_reducible refine g_awp ?_);simp only [g0,g1,g2]))
  rotate_left
  · exact pf (fun k => by have := k.1; omega)
  obtain ⟨re, oe⟩ := empty_own (h := h) (α := Int) (w := 1) rfl
  refine aw_upto l.length (fun i vs h1 => ∃ u G z, vs = [u, .int .i64 (i : Int), z] ∧ i ≤ l.length ∧ Ext h h1 ∧ SlRep h1 u ((allT (l.take i)).map (·.stamp)) G ∧ Own h.n h1 G ∧ Upto l (strOk l) i) ⟨_, _, _, rfl, Nat.zero_le _, ext_auto, re, oe _ (Nat.le_refl _), up0⟩ ?_
  rintro i vs h1 _ ⟨u, G, z, rfl, hi, e1, ru, ou, hu⟩
  have n1 := e1.1
  simp only [g0, g1]
  refine aw_len r ?_
  refine br (fun hlt => ?_) (fun hge => ?_)
  · obtain ⟨x, hx, -, htk⟩ := drop_step (show i < l.length by omega)
    have hxm := List.mem_of_getElem? hx
    have hm := szs_mem hxm
    have hx2 : Sz.sz x = x.l.length + szs x.l := rfl
    have okx := ok x hxm
    (repeat' first|refine vs ?_|(refine br ?_ ?_<;>intro _<;>try(exfalso;first|omega|contradiction))|((with_reducible refine g_callf n_spec_l1In ?_);(refine aw_rcall_b s_spec_l1In ?_ ?_ <;> intro hb <;> first | replace hb := inB_t hb | replace hb := inB_f hb))|((with_reducible refine g_idx ?_);((first|refine ix ?_|refine ixi ?_|(refine ixg ?_;intro _ _)|(refine ixgi ?_;intro _ _));first|rintro _ _ _ _ _ ⟨rfl,rfl⟩ _|rintro _ _ _ _ _ ⟨_,rfl,_⟩ _|rintro _ _ _ _ _ ⟨_,_,_,_,rfl,rfl,_,_⟩ _|intro _ _ _ _ _ _ _))|(refine sx ?_;intro _ _)|((with_reducible refine g_awp ?_);simp only [g0,g1,g2]))
    rotate_left
    · exact pf (fun k => by have := (k.2 i x hx).1; omega)
    have hle := szs_take_le l i
    refine aw_upto x.l.length (fun k vs h2 => ∃ u G, vs = [u, .int .i64 (k : Int)] ∧ k ≤ x.l.length ∧ Ext h h2 ∧ SlRep h2 u (stamps l i x k) G ∧ Own h.n h2 G ∧ Upto x.l (trOk l i x) k) ⟨u, G, rfl, Nat.zero_le _, ext_auto, by unfold stamps; rw [List.take_zero, List.append_nil]; exact slr_auto, ol_auto, up0⟩ ?_
    rintro k vs h2 _ ⟨u2, G2, rfl, hk, e2, ru2, ou2, hu2⟩
    have n2 := e2.1
    simp only [g0, g1]
    refine aw_idx r hx rfl ?_
    rintro b o _ Fi a ⟨v0, rfl, r0⟩ _
    refine vs ?_
    refine br (fun hlt2 => ?_) (fun hge2 => ?_)
    · obtain ⟨t, ht, -, htk2⟩ := drop_step (show k < x.l.length by omega)
      have htm := List.mem_of_getElem? ht
      have hm2 := szs_mem htm
      have okt := okx.2 t htm
      have hsl := stamps_len l i x k
      (repeat' first|refine vs ?_|(refine br ?_ ?_<;>intro _<;>try(exfalso;first|omega|contradiction))|((with_reducible refine g_callf n_spec_TrailOk ?_);(refine aw_rcall_b (s_spec_TrailOk okt.2.2.2 (by omega) slr_auto) ?_ ?_ <;> intro hn <;> first | replace hn := bp_true hn | replace hn := bp_false hn))|((with_reducible refine g_callf n_spec_StripeOf ?_);refine aw_rcall s_spec_StripeOf ?_)|((with_reducible refine g_callf n_spec_l11Has ?_);(refine aw_rcall_b (s_spec_l11Has slr_auto) ?_ ?_ <;> intro hc <;> first | replace hc := bp_true hc | replace hc := bp_false hc))|((with_reducible refine g_idx ?_);((first|refine ix ?_|refine ixi ?_|(refine ixg ?_;intro _ _)|(refine ixgi ?_;intro _ _));first|rintro _ _ _ _ _ ⟨rfl,rfl⟩ _|rintro _ _ _ _ _ ⟨_,rfl,_⟩ _|rintro _ _ _ _ _ ⟨_,_,_,_,rfl,rfl,_,_⟩ _|intro _ _ _ _ _ _ _))|(refine sx ?_;intro _ _)|((with_reducible refine g_awp ?_);simp only [g0,g1,g2]))
      all_goals first
        | (refine pf fun k1 => ?_; have k1 := (k1.2 i x hx).2 k t ht; obtain ⟨a1, a2, a3, a4⟩ := k1; first | contradiction | omega | exact a4 (by assumption) | exact a3 _ (by omega) (by assumption) (by omega))
        | skip
      all_goals
        refine app1 (n := h.n) (xs := stamps l i x k) (Fx := G2) (a := t.stamp) slr_auto ⟨rfl, rfl⟩ (by rw [List.append_nil]; exact ol_auto) om_auto rfl ?_ ?_ ?_
        · omega
        · omega
        intro u' h' F' ek kp r' o'
        (repeat' first|refine vs ?_|(refine br ?_ ?_<;>intro _<;>try(exfalso;first|omega|contradiction))|((with_reducible refine g_idx ?_);((first|refine ix ?_|refine ixi ?_|(refine ixg ?_;intro _ _)|(refine ixgi ?_;intro _ _));first|rintro _ _ _ _ _ ⟨rfl,rfl⟩ _|rintro _ _ _ _ _ ⟨_,rfl,_⟩ _|rintro _ _ _ _ _ ⟨_,_,_,_,rfl,rfl,_,_⟩ _|intro _ _ _ _ _ _ _))|(refine sx ?_;intro _ _)|((with_reducible refine g_awp ?_);simp only [g0,g1,g2]))
        refine ⟨by omega, u', F', rfl, by omega, ek h ext_auto (Nat.le_refl _), by rw [stamps_s htk2]; exact r', o', upS hu2 ht ⟨by assumption, by omega, fun u h0 hu => ?_, by assumption⟩⟩
        first
          | (exfalso; omega)
          | (simp_all; done)
          | (simp_all; omega)
    · (repeat' first|refine vs ?_|(refine br ?_ ?_<;>intro _<;>try(exfalso;first|omega|contradiction))|((with_reducible refine g_idx ?_);((first|refine ix ?_|refine ixi ?_|(refine ixg ?_;intro _ _)|(refine ixgi ?_;intro _ _));first|rintro _ _ _ _ _ ⟨rfl,rfl⟩ _|rintro _ _ _ _ _ ⟨_,rfl,_⟩ _|rintro _ _ _ _ _ ⟨_,_,_,_,rfl,rfl,_,_⟩ _|intro _ _ _ _ _ _ _))|(refine sx ?_;intro _ _)|((with_reducible refine g_awp ?_);simp only [g0,g1,g2]))
      have e : k = x.l.length := by omega
      rw [e, stamps_e htk] at ru2
      rw [e] at hu2
      exact ⟨by omega, u2, G2, _, rfl, by omega, ext_auto, ru2, ou2, upS hu hx ⟨by omega, fun k t ht => upEnd hu2 k t ht⟩⟩
  · (repeat' first|refine vs ?_|(refine br ?_ ?_<;>intro _<;>try(exfalso;first|omega|contradiction))|((with_reducible refine g_idx ?_);((first|refine ix ?_|refine ixi ?_|(refine ixg ?_;intro _ _)|(refine ixgi ?_;intro _ _));first|rintro _ _ _ _ _ ⟨rfl,rfl⟩ _|rintro _ _ _ _ _ ⟨_,rfl,_⟩ _|rintro _ _ _ _ _ ⟨_,_,_,_,rfl,rfl,_,_⟩ _|intro _ _ _ _ _ _ _))|(refine sx ?_;intro _ _)|((with_reducible refine g_awp ?_);simp only [g0,g1,g2]))
    rw [show i = l.length by omega] at hu
    exact pt ⟨by omega, fun i x hx => upEnd hu i x hx⟩
end Go.Proofs.YtekfdoknfcedpaaGreat
end
section
/- Sizes of what FindTrail, OldestOf and DropTrail hand back. -/
set_option linter.unusedSimpArgs false
set_option linter.unusedVariables false
namespace Go.Proofs.YtekfdoknfcedpaaGreat
open Go Go.Ab
end Go.Proofs.YtekfdoknfcedpaaGreat
end
section
/- Copies of items. -/
set_option linter.unusedSimpArgs false
set_option linter.unusedVariables false
set_option maxHeartbeats 2000000
namespace Go.Proofs.YtekfdoknfcedpaaGreat
open Go Go.Ab
section
/- impl.copyItems -/
def p_impl_copyItems (x0 : AV) : Prog := Ln 0 x0 fun a=>.loop [.nils, .int .i64 0] (fun b=>Bn .lss (g b 1) a fun a=>.ite a (Ix 7 x0 (g b 1) fun a=>Ld 7 a fun a=>.op (.alloc z7_a90) fun c=>.op (.st 7 c a) fun _=>.op (.fad 0 c) fun a=>.op (.ld1 a) fun d=>.op (.fad 1 c) fun c=>Ld 6 c fun c=>Cl n_impl_copySpan [c] fun c=>.chk (.ld1 a) d (.op (.build z7_a90 [(0, 1, d), (1, 6, c)]) fun a=>.op (.bslice 7 1 z7_a90 [(0, 7, a)]) fun a=>.op (.app 7 72 (g b 0) a) fun a=>Bn .add (g b 1) (.int .i64 1) fun b=>.leaf 0 [a, b])) (.leaf 2 [g b 0, g b 1])) fun a b=>tsel a 1 (.leaf 1 b) (tsel a 2 (.fin [.val (g b 0)]) .bad)
theorem c_impl_copyItems (x0 : AV) : CC Tryz.prog n_impl_copyItems [x0] (p_impl_copyItems x0) := cc Tryz.func122 [3, 6, 7, 8] (fun r => if r = 5 then [(0, []), (1, []), (2, []), (3, []), (4, []), (5, [2]), (6, []), (7, []), (8, []), (9, [])] else [])
/- spec.l14Items -/
def p_spec_l14Items (x0 : AV) : Prog := .op (.bslice 7 0 [] []) fun a=>.loop [a, .int .i64 0] (fun a=>Ln 0 x0 fun b=>Bn .lss (g a 1) b fun b=>.ite b (Ix 7 x0 (g a 1) fun b=>.op (.fad 0 b) fun b=>.op (.ld1 b) fun c=>Ix 7 x0 (g a 1) fun d=>.op (.fad 1 d) fun d=>Ld 6 d fun d=>Cl n_spec_l3Copy [d] fun d=>.chk (.ld1 b) c (.op (.build z7_a90 [(0, 1, c), (1, 6, d)]) fun b=>.op (.bslice 7 1 z7_a90 [(0, 7, b)]) fun b=>.op (.app 7 72 (g a 0) b) fun b=>Bn .add (g a 1) (.int .i64 1) fun a=>.leaf 0 [b, a])) (.leaf 2 [g a 0, g a 1])) fun a b=>tsel a 1 (.leaf 1 b) (tsel a 2 (.fin [.val (g b 0)]) .bad)
theorem c_spec_l14Items (x0 : AV) : CC Tryz.prog n_spec_l14Items [x0] (p_spec_l14Items x0) := cc Tryz.func94 [0, 3, 4] (fun r => if r = 5 then [(0, []), (1, []), (2, []), (3, []), (4, []), (5, []), (6, []), (7, []), (8, []), (9, []), (10, []), (11, [5]), (12, []), (13, []), (14, []), (15, [])] else [])
end
theorem s_impl_copyItems (xs : List Itm) (hs : xs.length + szs xs ≤ 67108864) : CopyL Tryz.prog n_impl_copyItems xs := by
  intro v F h r
  refine c_impl_copyItems _ ?_
  unfold p_impl_copyItems
  have hsm := r.small
  refine aw_len r ?_
  refine aw_upto xs.length (fun i vs h1 => ∃ u G, vs = [u, .int .i64 (i : Int)] ∧ i ≤ xs.length ∧ Ext h h1 ∧ SlRep h1 u (xs.take i) G ∧ Own h.n h1 G) ⟨.nils, [], rfl, Nat.zero_le _, Ext.refl _, SlRep.nils, Own.nil⟩ ?_
  rintro i vs h1 _ ⟨u, G, rfl, hi, e1, ru, ou⟩
  have n1 := e1.1
  simp only [g0, g1]
  refine br (fun hlt => ?_) (fun hge => ?_)
  · obtain ⟨x, hx, -, htk⟩ := drop_step (show i < xs.length by omega)
    have hm := szs_mem (List.mem_of_getElem? hx)
    have hx2 : Sz.sz x = Sz.sz x.s := rfl
    refine vs ?_
    refine aw_idx r hx rfl ?_
    rintro b o _ Fi a ⟨v0, rfl, r0⟩ _
    (repeat' first|refine vs ?_|(refine br ?_ ?_<;>intro _<;>try(exfalso;first|omega|contradiction))|((with_reducible refine g_callf n_impl_copySpan ?_);(refine aw_call (s_impl_copySpan x.s (by omega) _ _ _ ⟨_, rfl, slr_auto⟩) ?_; rintro _ h2 ⟨e2, _, G2, rfl, ⟨w2, rfl, q2⟩, o2⟩; have n2 := e2.1; (try simp only [push_n, upd_n] at n2)))|((with_reducible refine g_idx ?_);((first|refine ix ?_|refine ixi ?_|(refine ixg ?_;intro _ _)|(refine ixgi ?_;intro _ _));first|rintro _ _ _ _ _ ⟨rfl,rfl⟩ _|rintro _ _ _ _ _ ⟨_,rfl,_⟩ _|rintro _ _ _ _ _ ⟨_,_,_,_,rfl,rfl,_,_⟩ _|intro _ _ _ _ _ _ _))|(refine sx ?_;intro _ _)|((with_reducible refine g_awp ?_);simp only [g0,g1,g2]))
    have hlen : (xs.take i).length = i := by rw [List.length_take]; omega
    refine app1 (n := h.n) (xs := xs.take i) (Fx := G) (a := x) slr_auto ⟨_, rfl, q2⟩ (own_app (ol_auto) o2 (by simp only [push_n]; omega) dis_auto) om_auto rfl ?_ ?_ ?_
    · rw [hlen]; omega
    · rw [hlen]; omega
    intro u' h' F' ek kp r' o'
    (repeat' first|refine vs ?_|(refine br ?_ ?_<;>intro _<;>try(exfalso;first|omega|contradiction))|((with_reducible refine g_idx ?_);((first|refine ix ?_|refine ixi ?_|(refine ixg ?_;intro _ _)|(refine ixgi ?_;intro _ _));first|rintro _ _ _ _ _ ⟨rfl,rfl⟩ _|rintro _ _ _ _ _ ⟨_,rfl,_⟩ _|rintro _ _ _ _ _ ⟨_,_,_,_,rfl,rfl,_,_⟩ _|intro _ _ _ _ _ _ _))|(refine sx ?_;intro _ _)|((with_reducible refine g_awp ?_);simp only [g0,g1,g2]))
    exact ⟨by omega, u', F', rfl, by omega, ek h ext_auto (Nat.le_refl _), by rw [htk]; exact r', o'⟩
  · (repeat' first|refine vs ?_|(refine br ?_ ?_<;>intro _<;>try(exfalso;first|omega|contradiction))|((with_reducible refine g_idx ?_);((first|refine ix ?_|refine ixi ?_|(refine ixg ?_;intro _ _)|(refine ixgi ?_;intro _ _));first|rintro _ _ _ _ _ ⟨rfl,rfl⟩ _|rintro _ _ _ _ _ ⟨_,rfl,_⟩ _|rintro _ _ _ _ _ ⟨_,_,_,_,rfl,rfl,_,_⟩ _|intro _ _ _ _ _ _ _))|(refine sx ?_;intro _ _)|((with_reducible refine g_awp ?_);simp only [g0,g1,g2]))
    exact ⟨rfl, u, rfl, e1, G, by rw [show i = xs.length by omega, List.take_length] at ru; exact ru, ou⟩
theorem s_spec_l14Items (xs : List Itm) (hs : xs.length + szs xs ≤ 67108864) : CopyL Tryz.prog n_spec_l14Items xs := by
  intro v F h r
  refine c_spec_l14Items _ ?_
  unfold p_spec_l14Items
  have hsm := r.small
  obtain ⟨re, oe⟩ := empty_own (h := h) (α := Itm) (w := 7) rfl
  refine vs ?_
  refine aw_upto xs.length (fun i vs h1 => ∃ u G, vs = [u, .int .i64 (i : Int)] ∧ i ≤ xs.length ∧ Ext h h1 ∧ SlRep h1 u (xs.take i) G ∧ Own h.n h1 G) ⟨_, _, rfl, Nat.zero_le _, (Ext.refl _).push _, by rw [List.take_zero]; exact re, oe _ (Nat.le_refl _)⟩ ?_
  rintro i vs h1 _ ⟨u, G, rfl, hi, e1, ru, ou⟩
  have n1 := e1.1
  simp only [g0, g1]
  refine aw_len r ?_
  refine br (fun hlt => ?_) (fun hge => ?_)
  · obtain ⟨x, hx, -, htk⟩ := drop_step (show i < xs.length by omega)
    have hm := szs_mem (List.mem_of_getElem? hx)
    have hx2 : Sz.sz x = Sz.sz x.s := rfl
    (repeat' first|refine vs ?_|(refine br ?_ ?_<;>intro _<;>try(exfalso;first|omega|contradiction))|((with_reducible refine g_callf n_spec_l3Copy ?_);(refine aw_call (s_spec_l3Copy x.s (by omega) _ _ _ ⟨_, rfl, slr_auto⟩) ?_; rintro _ h2 ⟨e2, _, G2, rfl, ⟨w2, rfl, q2⟩, o2⟩; have n2 := e2.1; (try simp only [push_n, upd_n] at n2)))|((with_reducible refine g_idx ?_);((first|refine ix ?_|refine ixi ?_|(refine ixg ?_;intro _ _)|(refine ixgi ?_;intro _ _));first|rintro _ _ _ _ _ ⟨rfl,rfl⟩ _|rintro _ _ _ _ _ ⟨_,rfl,_⟩ _|rintro _ _ _ _ _ ⟨_,_,_,_,rfl,rfl,_,_⟩ _|intro _ _ _ _ _ _ _))|(refine sx ?_;intro _ _)|((with_reducible refine g_awp ?_);simp only [g0,g1,g2]))
    have hlen : (xs.take i).length = i := by rw [List.length_take]; omega
    refine app1 (n := h.n) (xs := xs.take i) (Fx := G) (a := x) slr_auto ⟨_, rfl, q2⟩ (own_app (ol_auto) o2 (by omega) dis_auto) om_auto rfl ?_ ?_ ?_
    · rw [hlen]; omega
    · rw [hlen]; omega
    intro u' h' F' ek kp r' o'
    (repeat' first|refine vs ?_|(refine br ?_ ?_<;>intro _<;>try(exfalso;first|omega|contradiction))|((with_reducible refine g_idx ?_);((first|refine ix ?_|refine ixi ?_|(refine ixg ?_;intro _ _)|(refine ixgi ?_;intro _ _));first|rintro _ _ _ _ _ ⟨rfl,rfl⟩ _|rintro _ _ _ _ _ ⟨_,rfl,_⟩ _|rintro _ _ _ _ _ ⟨_,_,_,_,rfl,rfl,_,_⟩ _|intro _ _ _ _ _ _ _))|(refine sx ?_;intro _ _)|((with_reducible refine g_awp ?_);simp only [g0,g1,g2]))
    exact ⟨by omega, u', F', rfl, by omega, ek h ext_auto (Nat.le_refl _), by rw [htk]; exact r', o'⟩
  · (repeat' first|refine vs ?_|(refine br ?_ ?_<;>intro _<;>try(exfalso;first|omega|contradiction))|((with_reducible refine g_idx ?_);((first|refine ix ?_|refine ixi ?_|(refine ixg ?_;intro _ _)|(refine ixgi ?_;intro _ _));first|rintro _ _ _ _ _ ⟨rfl,rfl⟩ _|rintro _ _ _ _ _ ⟨_,rfl,_⟩ _|rintro _ _ _ _ _ ⟨_,_,_,_,rfl,rfl,_,_⟩ _|intro _ _ _ _ _ _ _))|(refine sx ?_;intro _ _)|((with_reducible refine g_awp ?_);simp only [g0,g1,g2]))
    exact ⟨rfl, u, rfl, e1, G, by rw [show i = xs.length by omega, List.take_length] at ru; exact ru, ou⟩
end Go.Proofs.YtekfdoknfcedpaaGreat
end
section
/- Copies of deeds. -/
set_option linter.unusedSimpArgs false
set_option linter.unusedVariables false
set_option maxHeartbeats 2000000
namespace Go.Proofs.YtekfdoknfcedpaaGreat
open Go Go.Ab
section
/- impl.copyDeeds -/
def p_impl_copyDeeds (x0 : AV) : Prog := Ln 0 x0 fun a=>.loop [.nils, .int .i64 0] (fun b=>Bn .lss (g b 1) a fun a=>.ite a (Ix 20 x0 (g b 1) fun a=>Ld 20 a fun a=>.op (.alloc z20_1ff) fun c=>.op (.st 20 c a) fun _=>.op (.fad 2 c) fun a=>Ld 6 a fun a=>Cl n_impl_copySpan [a] fun a=>.op (.fad 2 c) fun d=>.op (.st 6 d a) fun _=>Ld 20 c fun a=>.op (.bslice 20 1 z20_1ff [(0, 20, a)]) fun a=>.op (.app 20 168 (g b 0) a) fun a=>Bn .add (g b 1) (.int .i64 1) fun b=>.leaf 0 [a, b]) (.leaf 2 [g b 0, g b 1])) fun a b=>tsel a 1 (.leaf 1 b) (tsel a 2 (.fin [.val (g b 0)]) .bad)
theorem c_impl_copyDeeds (x0 : AV) : CC Tryz.prog n_impl_copyDeeds [x0] (p_impl_copyDeeds x0) := cc Tryz.func123 [3, 6, 7, 8] (fun _ => [])
/- spec.l15Copy -/
def p_spec_l15Copy (x0 : AV) : Prog := .op (.box x0) fun a=>.op (.alloc z20_1ff) fun b=>.op (.fad 2 a) fun c=>Ld 6 c fun c=>Cl n_spec_l3Copy [c] fun c=>.op (.fad 2 a) fun d=>.op (.st 6 d c) fun _=>Ld 20 a fun a=>.op (.st 20 b a) fun _=>.fin [.cn 20 b]
theorem c_spec_l15Copy (x0 : AV) : CC Tryz.prog n_spec_l15Copy [x0] (p_spec_l15Copy x0) := cc Tryz.func172
end
theorem s_impl_copyDeeds (xs : List Deed) (hs : xs.length + szs xs ≤ 67108864) : CopyL Tryz.prog n_impl_copyDeeds xs := by
  intro v F h r
  refine c_impl_copyDeeds _ ?_
  unfold p_impl_copyDeeds
  have hsm := r.small
  refine aw_len r ?_
  refine aw_upto xs.length (fun i vs h1 => ∃ u G, vs = [u, .int .i64 (i : Int)] ∧ i ≤ xs.length ∧ Ext h h1 ∧ SlRep h1 u (xs.take i) G ∧ Own h.n h1 G) ⟨.nils, [], rfl, Nat.zero_le _, Ext.refl _, SlRep.nils, Own.nil⟩ ?_
  rintro i vs h1 _ ⟨u, G, rfl, hi, e1, ru, ou⟩
  have n1 := e1.1
  simp only [g0, g1]
  refine br (fun hlt => ?_) (fun hge => ?_)
  · obtain ⟨x, hx, -, htk⟩ := drop_step (show i < xs.length by omega)
    have hm := szs_mem (List.mem_of_getElem? hx)
    have hx2 : Sz.sz x = Sz.sz x.s := rfl
    refine vs ?_
    refine aw_idx r hx rfl ?_
    rintro b o _ Fi a ⟨v0, rfl, r0⟩ _
    (repeat' first|refine vs ?_|(refine br ?_ ?_<;>intro _<;>try(exfalso;first|omega|contradiction))|((with_reducible refine g_callf n_impl_copySpan ?_);(refine aw_call (s_impl_copySpan x.s (by omega) _ _ _ ⟨_, rfl, slr_auto⟩) ?_; rintro _ h2 ⟨e2, _, G2, rfl, ⟨w2, rfl, q2⟩, o2⟩; have n2 := e2.1; (try simp only [push_n, upd_n] at n2)))|((with_reducible refine g_idx ?_);((first|refine ix ?_|refine ixi ?_|(refine ixg ?_;intro _ _)|(refine ixgi ?_;intro _ _));first|rintro _ _ _ _ _ ⟨rfl,rfl⟩ _|rintro _ _ _ _ _ ⟨_,rfl,_⟩ _|rintro _ _ _ _ _ ⟨_,_,_,_,rfl,rfl,_,_⟩ _|intro _ _ _ _ _ _ _))|(refine sx ?_;intro _ _)|((with_reducible refine g_awp ?_);simp only [g0,g1,g2]))
    have hlen : (xs.take i).length = i := by rw [List.length_take]; omega
    refine app1 (n := h.n) (xs := xs.take i) (Fx := G) (a := x) slr_auto ⟨_, rfl, slr_auto⟩ (own_app (ol_auto) (ol_auto : Own (h1.n + 1) _ G2) (by omega) dis_auto) om_auto rfl ?_ ?_ ?_
    · rw [hlen]; omega
    · rw [hlen]; omega
    intro u' h' F' ek kp r' o'
    (repeat' first|refine vs ?_|(refine br ?_ ?_<;>intro _<;>try(exfalso;first|omega|contradiction))|((with_reducible refine g_idx ?_);((first|refine ix ?_|refine ixi ?_|(refine ixg ?_;intro _ _)|(refine ixgi ?_;intro _ _));first|rintro _ _ _ _ _ ⟨rfl,rfl⟩ _|rintro _ _ _ _ _ ⟨_,rfl,_⟩ _|rintro _ _ _ _ _ ⟨_,_,_,_,rfl,rfl,_,_⟩ _|intro _ _ _ _ _ _ _))|(refine sx ?_;intro _ _)|((with_reducible refine g_awp ?_);simp only [g0,g1,g2]))
    exact ⟨by omega, u', F', rfl, by omega, ek h ext_auto (Nat.le_refl _), by rw [htk]; exact r', o'⟩
  · (repeat' first|refine vs ?_|(refine br ?_ ?_<;>intro _<;>try(exfalso;first|omega|contradiction))|((with_reducible refine g_idx ?_);((first|refine ix ?_|refine ixi ?_|(refine ixg ?_;intro _ _)|(refine ixgi ?_;intro _ _));first|rintro _ _ _ _ _ ⟨rfl,rfl⟩ _|rintro _ _ _ _ _ ⟨_,rfl,_⟩ _|rintro _ _ _ _ _ ⟨_,_,_,_,rfl,rfl,_,_⟩ _|intro _ _ _ _ _ _ _))|(refine sx ?_;intro _ _)|((with_reducible refine g_awp ?_);simp only [g0,g1,g2]))
    exact ⟨rfl, u, rfl, e1, G, by rw [show i = xs.length by omega, List.take_length] at ru; exact ru, ou⟩
theorem s_spec_l15Copy (x : Deed) (hs : Sz.sz x ≤ 67108864) : CopyX Deed Tryz.prog n_spec_l15Copy x := by
  rintro cs F h ⟨v0, rfl, r0⟩
  have hx2 : Sz.sz x = Sz.sz x.s := rfl
  refine c_spec_l15Copy _ ?_
  unfold p_spec_l15Copy
  (repeat' first|refine vs ?_|(refine br ?_ ?_<;>intro _<;>try(exfalso;first|omega|contradiction))|((with_reducible refine g_callf n_spec_l3Copy ?_);(refine aw_call (s_spec_l3Copy x.s (by omega) _ _ _ ⟨_, rfl, slr_auto⟩) ?_; rintro _ h2 ⟨e2, _, G2, rfl, ⟨w2, rfl, q2⟩, o2⟩; have n2 := e2.1; (try simp only [push_n, upd_n] at n2)))|((with_reducible refine g_idx ?_);((first|refine ix ?_|refine ixi ?_|(refine ixg ?_;intro _ _)|(refine ixgi ?_;intro _ _));first|rintro _ _ _ _ _ ⟨rfl,rfl⟩ _|rintro _ _ _ _ _ ⟨_,rfl,_⟩ _|rintro _ _ _ _ _ ⟨_,_,_,_,rfl,rfl,_,_⟩ _|intro _ _ _ _ _ _ _))|(refine sx ?_;intro _ _)|((with_reducible refine g_awp ?_);simp only [g0,g1,g2]))
  exact ⟨rfl, _, rfl, ext_auto, _, _, rfl, ⟨_, rfl, slr_auto⟩, ol_auto⟩
end Go.Proofs.YtekfdoknfcedpaaGreat
end
section
/- Copies of deeds and tasks, by the reference. -/
set_option linter.unusedSimpArgs false
set_option linter.unusedVariables false
set_option maxHeartbeats 2000000
namespace Go.Proofs.YtekfdoknfcedpaaGreat
open Go Go.Ab
section
/- spec.l15All -/
def p_spec_l15All (x0 : AV) : Prog := .op (.bslice 20 0 [] []) fun a=>.loop [a, .int .i64 0] (fun a=>Ln 0 x0 fun b=>Bn .lss (g a 1) b fun b=>.ite b (Ix 20 x0 (g a 1) fun b=>Ld 20 b fun b=>Cl n_spec_l15Copy [b] fun b=>.op (.alloc z20_1ff) fun c=>.op (.st 20 c b) fun _=>Ld 20 c fun b=>.op (.bslice 20 1 z20_1ff [(0, 20, b)]) fun b=>.op (.app 20 168 (g a 0) b) fun b=>Bn .add (g a 1) (.int .i64 1) fun a=>.leaf 0 [b, a]) (.leaf 2 [g a 0, g a 1])) fun a b=>tsel a 1 (.leaf 1 b) (tsel a 2 (.fin [.val (g b 0)]) .bad)
theorem c_spec_l15All (x0 : AV) : CC Tryz.prog n_spec_l15All [x0] (p_spec_l15All x0) := cc Tryz.func96 [0, 3, 4] (fun _ => [])
/- spec.l14Copy -/
def p_spec_l14Copy (x0 : AV) : Prog := .op (.box x0) fun a=>.op (.alloc z12_f83) fun b=>Ld 12 a fun c=>.op (.alloc z12_f83) fun d=>.op (.st 12 d c) fun _=>.op (.fad 2 a) fun c=>Ld 6 c fun c=>Cl n_spec_l3Copy [c] fun c=>.op (.fad 2 d) fun e=>.op (.st 6 e c) fun _=>Lg 10 a fun a=>Cl n_spec_l14Items [a] fun a=>Sg 10 d a fun _=>Ld 12 d fun a=>.op (.st 12 b a) fun _=>.fin [.cn 12 b]
theorem c_spec_l14Copy (x0 : AV) : CC Tryz.prog n_spec_l14Copy [x0] (p_spec_l14Copy x0) := cc Tryz.func95
end
theorem s_spec_l15All (xs : List Deed) (hs : xs.length + szs xs ≤ 67108864) : CopyL Tryz.prog n_spec_l15All xs := fun v F h r =>
  c_spec_l15All _ (mapS_spec rfl rfl (by decide) (fun x hx => s_spec_l15Copy x (by have := szs_mem hx; omega)) r (by omega))
theorem s_spec_l14Copy (x : Task) (hs : Sz.sz x ≤ 67108864) : CopyX Task Tryz.prog n_spec_l14Copy x := by
  rintro cs F h ⟨v0, v1, F0, F1, rfl, rfl, r0, r1⟩
  have hx2 : Sz.sz x = Sz.sz x.s + (x.hand.length + szs x.hand) := rfl
  refine c_spec_l14Copy _ ?_
  unfold p_spec_l14Copy
  (repeat' first|refine vs ?_|(refine br ?_ ?_<;>intro _<;>try(exfalso;first|omega|contradiction))|((with_reducible refine g_callf n_spec_l3Copy ?_);(refine aw_call (s_spec_l3Copy x.s (by omega) _ _ _ ⟨_, rfl, slr_auto⟩) ?_; rintro _ h2 ⟨e2, _, G2, rfl, ⟨w2, rfl, q2⟩, o2⟩; have n2 := e2.1; (try simp only [push_n, upd_n] at n2)))|((with_reducible refine g_callf n_spec_l14Items ?_);(refine aw_call (s_spec_l14Items x.hand (by omega) _ _ _ slr_auto) ?_; rintro w3 h3 ⟨e3, G3, q3, o3⟩; have n3 := e3.1; (try simp only [push_n, upd_n] at n3)))|((with_reducible refine g_idx ?_);((first|refine ix ?_|refine ixi ?_|(refine ixg ?_;intro _ _)|(refine ixgi ?_;intro _ _));first|rintro _ _ _ _ _ ⟨rfl,rfl⟩ _|rintro _ _ _ _ _ ⟨_,rfl,_⟩ _|rintro _ _ _ _ _ ⟨_,_,_,_,rfl,rfl,_,_⟩ _|intro _ _ _ _ _ _ _))|(refine sx ?_;intro _ _)|((with_reducible refine g_awp ?_);simp only [g0,g1,g2]))
  exact ⟨rfl, _, rfl, ext_auto, _, _, rfl, ⟨_, _, _, _, rfl, rfl, slr_auto, slr_auto⟩, (ol_app2 oll_auto oll_auto dis_auto).1⟩
end Go.Proofs.YtekfdoknfcedpaaGreat
end
