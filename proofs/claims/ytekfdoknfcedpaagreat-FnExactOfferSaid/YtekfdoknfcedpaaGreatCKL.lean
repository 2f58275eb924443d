import Derived.Test.YtekfdoknfcedpaaGreatCNm
import Derived.Test.YtekfdoknfcedpaaGreatCK4
import Derived.Test.YtekfdoknfcedpaaGreatCKW1
section
/- Attr: copies, comparisons, sizes. Written by mkl.py. -/
set_option linter.unusedSimpArgs false
set_option linter.unusedVariables false
set_option maxHeartbeats 1000000
namespace Go.Proofs.YtekfdoknfcedpaaGreat
open Go Go.Ab
section
/- laws.toAttr -/
def p_laws_toAttr (x0 : AV) : Prog := .op (.box x0) fun a=>.op (.alloc [.str ⟨#[]⟩, .bool false, .int .i64 0, .str ⟨#[]⟩]) fun b=>.op (.alloc [.str ⟨#[]⟩, .bool false, .int .i64 0, .str ⟨#[]⟩]) fun c=>Lg 0 a fun d=>Sg 0 c d fun _=>Lg 1 a fun d=>Sg 1 c d fun _=>Lg 2 a fun d=>Sg 2 c d fun _=>Lg 3 a fun a=>Sg 3 c a fun _=>Ld 4 c fun a=>.op (.st 4 b a) fun _=>.fin [.cn 4 b]
theorem c_laws_toAttr (x0 : AV) : CC Tryz.prog n_laws_toAttr [x0] (p_laws_toAttr x0) := cc Tryz.func163
/- laws.eqAttr -/
def p_laws_eqAttr (x0 x1 : AV) : Prog := .op (.box x0) fun a=>.op (.box x1) fun b=>Lg 0 a fun c=>Lg 0 b fun d=>.op (.bin 1 .neq c d) fun c=>.ite c (.fin [.val (.bool false)]) (Lg 1 a fun c=>Lg 1 b fun d=>.op (.bin 2 .neq c d) fun c=>.ite c (.fin [.val (.bool false)]) (Lg 2 a fun c=>Lg 2 b fun d=>Bn .neq c d fun c=>.ite c (.fin [.val (.bool false)]) (Lg 3 a fun a=>Lg 3 b fun b=>.op (.bin 1 .neq a b) fun a=>.ite a (.fin [.val (.bool false)]) (.fin [.val (.bool true)]))))
theorem c_laws_eqAttr (x0 x1 : AV) : CC Tryz.prog n_laws_eqAttr [x0, x1] (p_laws_eqAttr x0 x1) := cc Tryz.func165
/- laws.szAttr -/
def p_laws_szAttr (x0 x1 : AV) : Prog := .op (.box x0) fun a=>Lg 0 a fun b=>Ln 1 b fun b=>Bn .sub x1 b fun b=>Bn .lss b (.int .i64 0) fun c=>.ite c (.fin [.val (.int .i64 (-1))]) (Lg 3 a fun a=>Ln 1 a fun a=>Bn .sub b a fun a=>Bn .lss a (.int .i64 0) fun b=>.ite b (.fin [.val (.int .i64 (-1))]) (.fin [.val a]))
theorem c_laws_szAttr (x0 x1 : AV) : CC Tryz.prog n_laws_szAttr [x0, x1] (p_laws_szAttr x0 x1) := cc Tryz.func160
/- laws.toAttrS -/
def p_laws_toAttrS (x0 : AV) : Prog := Ln 0 x0 fun a=>.op (.mksl 4 48 [.str ⟨#[]⟩, .bool false, .int .i64 0, .str ⟨#[]⟩] a a) fun a=>.loop [.int .i64 0] (fun b=>Ln 0 x0 fun c=>Bn .lss (g b 0) c fun c=>.ite c (Ix 4 x0 (g b 0) fun c=>Ld 4 c fun c=>Cl n_laws_toAttr [c] fun c=>Ix 4 a (g b 0) fun a=>.op (.st 4 a c) fun _=>Bn .add (g b 0) (.int .i64 1) fun a=>.leaf 0 [a]) (.leaf 2 [g b 0])) fun b c=>tsel b 1 (.leaf 1 c) (tsel b 2 (.fin [.val a]) .bad)
theorem c_laws_toAttrS (x0 : AV) : CC Tryz.prog n_laws_toAttrS [x0] (p_laws_toAttrS x0) := cc Tryz.func79 [0, 3, 4] (fun _ => [])
/- laws.eqAttrS -/
def p_laws_eqAttrS (x0 x1 : AV) : Prog := Ln 0 x0 fun a=>Ln 0 x1 fun b=>Bn .neq a b fun a=>.ite a (.fin [.val (.bool false)]) (.loop [.int .i64 0] (fun a=>Ln 0 x0 fun b=>Bn .lss (g a 0) b fun b=>.ite b (Ix 4 x0 (g a 0) fun b=>Ld 4 b fun b=>Ix 4 x1 (g a 0) fun c=>Ld 4 c fun c=>Cl n_laws_eqAttr [b, c] fun b=>.op (.una .not b) fun b=>.ite b (.fin [.val (.bool false)]) (Bn .add (g a 0) (.int .i64 1) fun a=>.leaf 0 [a])) (.leaf 2 [g a 0])) fun a b=>tsel a 1 (.leaf 1 b) (tsel a 2 (.fin [.val (.bool true)]) .bad))
theorem c_laws_eqAttrS (x0 x1 : AV) : CC Tryz.prog n_laws_eqAttrS [x0, x1] (p_laws_eqAttrS x0 x1) := cc Tryz.func83 [0, 1, 5] (fun r => if r = 6 then [(0, []), (1, []), (2, []), (3, []), (4, []), (5, []), (6, []), (7, []), (8, []), (9, [])] else [])
/- laws.szAttrS -/
def p_laws_szAttrS (x0 x1 : AV) : Prog := Ln 0 x0 fun a=>Bn .sub x1 a fun a=>Bn .lss a (.int .i64 0) fun b=>.ite b (.fin [.val (.int .i64 (-1))]) (.loop [a, .int .i64 0] (fun a=>Ln 0 x0 fun b=>Bn .lss (g a 1) b fun b=>.ite b (Ix 4 x0 (g a 1) fun b=>Ld 4 b fun b=>Cl n_laws_szAttr [b, g a 0] fun b=>Bn .lss b (.int .i64 0) fun c=>.ite c (.fin [.val (.int .i64 (-1))]) (Bn .add (g a 1) (.int .i64 1) fun a=>.leaf 0 [b, a])) (.leaf 2 [g a 0, g a 1])) fun a b=>tsel a 1 (.leaf 1 b) (tsel a 2 (.fin [.val (g b 0)]) .bad))
theorem c_laws_szAttrS (x0 x1 : AV) : CC Tryz.prog n_laws_szAttrS [x0, x1] (p_laws_szAttrS x0 x1) := cc Tryz.func77 [0, 1, 5] (fun _ => [])
end
theorem s_laws_toAttr (x : Attr) (hs : Sz.sz x ≤ 1048576) : CopyX Attr Tryz.prog n_laws_toAttr x := by
  rintro cs F h ⟨rfl, rfl⟩
  have hs : x.key.size + x.text.size ≤ 1048576 := hs
  refine c_laws_toAttr _ ?_
  unfold p_laws_toAttr
  (repeat' first|refine vs ?_|(refine br ?_ ?_<;>intro _<;>try(exfalso;first|omega|contradiction))|((with_reducible refine g_idx ?_);((first|refine ix ?_|refine ixi ?_|(refine ixg ?_;intro _ _)|(refine ixgi ?_;intro _ _));first|rintro _ _ _ _ _ ⟨rfl,rfl⟩ _|rintro _ _ _ _ _ ⟨_,rfl,_⟩ _|rintro _ _ _ _ _ ⟨_,_,_,_,rfl,rfl,_,_⟩ _|intro _ _ _ _ _ _ _))|(refine sx ?_;intro _ _)|((with_reducible refine g_awp ?_);simp only [g0,g1,g2]))
  exact ⟨rfl, _, rfl, ext_auto, _, _, rfl, ⟨rfl, rfl⟩, Own.nil⟩
theorem s_laws_eqAttr : EqC Attr Tryz.prog n_laws_eqAttr := by
  rintro x cs cs' F F' h ⟨rfl, rfl⟩ ⟨rfl, rfl⟩
  refine reader (c_laws_eqAttr _ _) (by simp only [old]) ?_
  unfold p_laws_eqAttr
  (repeat' first|refine vs ?_|(refine br ?_ ?_<;>intro _<;>try(exfalso;first|omega|contradiction))|((with_reducible refine g_idx ?_);((first|refine ix ?_|refine ixi ?_|(refine ixg ?_;intro _ _)|(refine ixgi ?_;intro _ _));first|rintro _ _ _ _ _ ⟨rfl,rfl⟩ _|rintro _ _ _ _ _ ⟨_,rfl,_⟩ _|rintro _ _ _ _ _ ⟨_,_,_,_,rfl,rfl,_,_⟩ _|intro _ _ _ _ _ _ _))|(refine sx ?_;intro _ _)|((with_reducible refine g_awp ?_);simp only [g0,g1,g2]))
  exact pb rfl
theorem s_laws_szAttr : SzC Attr Tryz.prog n_laws_szAttr := by
  rintro x ok cs F b h ⟨rfl, rfl⟩ h0 h1
  obtain ⟨ok_key, ok_n, ok_text⟩ := ok
  have ok_key : x.key.size ≤ 9223372036854775807 := ok_key
  have ok_text : x.text.size ≤ 9223372036854775807 := ok_text
  have hS : Sz.sz x = x.key.size + x.text.size := rfl
  refine reader (c_laws_szAttr _ _) (by simp only [old]) ?_
  unfold p_laws_szAttr
  (repeat' first|refine vs ?_|(refine br ?_ ?_<;>intro _<;>try(exfalso;first|omega|contradiction))|((with_reducible refine g_idx ?_);((first|refine ix ?_|refine ixi ?_|(refine ixg ?_;intro _ _)|(refine ixgi ?_;intro _ _));first|rintro _ _ _ _ _ ⟨rfl,rfl⟩ _|rintro _ _ _ _ _ ⟨_,rfl,_⟩ _|rintro _ _ _ _ _ ⟨_,_,_,_,rfl,rfl,_,_⟩ _|intro _ _ _ _ _ _ _))|(refine sx ?_;intro _ _)|((with_reducible refine g_awp ?_);simp only [g0,g1,g2]))
  all_goals (refine pi ?_; unfold szr; split <;> omega)
theorem s_laws_toAttrS (xs : List Attr) (hs : xs.length + szs xs ≤ 1048576) : CopyL Tryz.prog n_laws_toAttrS xs := copyL_of rfl rfl (by decide) hs (fun x hx => s_laws_toAttr x hx) (fun g => c_laws_toAttrS _ g)
theorem s_laws_eqAttrS : EqS Attr Tryz.prog n_laws_eqAttrS := fun xs v v' F F' h r r' => reader (c_laws_eqAttrS _ _) (by simp only [old]) (eqS_spec rfl s_laws_eqAttr r r')
theorem s_laws_szAttrS : SzL Attr Tryz.prog n_laws_szAttrS := fun xs ok v F b h r h0 h1 => reader (c_laws_szAttrS _ _) (by simp only [old]) (szS_spec rfl s_laws_szAttr ok r h0 h1)
end Go.Proofs.YtekfdoknfcedpaaGreat
end
section
/- Span: copies, comparisons, sizes. Written by mkl.py. -/
set_option linter.unusedSimpArgs false
set_option linter.unusedVariables false
set_option maxHeartbeats 1000000
namespace Go.Proofs.YtekfdoknfcedpaaGreat
open Go Go.Ab
section
/- laws.toSpan -/
def p_laws_toSpan (x0 : AV) : Prog := .op (.box x0) fun a=>.op (.alloc z6_822) fun b=>.op (.alloc z6_822) fun c=>Lg 0 a fun d=>Sg 0 c d fun _=>Lg 1 a fun d=>Sg 1 c d fun _=>Lg 2 a fun d=>Sg 2 c d fun _=>Lg 3 a fun d=>Sg 3 c d fun _=>Lg 4 a fun d=>Sg 4 c d fun _=>Lg 5 a fun a=>Cl n_laws_toAttrS [a] fun a=>Sg 5 c a fun _=>Ld 6 c fun a=>.op (.st 6 b a) fun _=>.fin [.cn 6 b]
theorem c_laws_toSpan (x0 : AV) : CC Tryz.prog n_laws_toSpan [x0] (p_laws_toSpan x0) := cc Tryz.func17
/- laws.eqSpan -/
def p_laws_eqSpan (x0 x1 : AV) : Prog := .op (.box x0) fun a=>.op (.box x1) fun b=>Lg 0 a fun c=>Lg 0 b fun d=>Bn .neq c d fun c=>.ite c (.fin [.val (.bool false)]) (Lg 1 a fun c=>Lg 1 b fun d=>Bn .neq c d fun c=>.ite c (.fin [.val (.bool false)]) (Lg 2 a fun c=>Lg 2 b fun d=>Bn .neq c d fun c=>.ite c (.fin [.val (.bool false)]) (Lg 3 a fun c=>Lg 3 b fun d=>Bn .neq c d fun c=>.ite c (.fin [.val (.bool false)]) (Lg 4 a fun c=>Lg 4 b fun d=>.op (.bin 2 .neq c d) fun c=>.ite c (.fin [.val (.bool false)]) (Lg 5 a fun a=>Lg 5 b fun b=>Cl n_laws_eqAttrS [a, b] fun a=>.op (.una .not a) fun a=>.ite a (.fin [.val (.bool false)]) (.fin [.val (.bool true)]))))))
theorem c_laws_eqSpan (x0 x1 : AV) : CC Tryz.prog n_laws_eqSpan [x0, x1] (p_laws_eqSpan x0 x1) := cc Tryz.func19
/- laws.szSpan -/
def p_laws_szSpan (x0 x1 : AV) : Prog := .op (.box x0) fun a=>Lg 5 a fun a=>Cl n_laws_szAttrS [a, x1] fun a=>Bn .lss a (.int .i64 0) fun b=>.ite b (.fin [.val (.int .i64 (-1))]) (.fin [.val a])
theorem c_laws_szSpan (x0 x1 : AV) : CC Tryz.prog n_laws_szSpan [x0, x1] (p_laws_szSpan x0 x1) := cc Tryz.func15
/- laws.toSpanS -/
def p_laws_toSpanS (x0 : AV) : Prog := Ln 0 x0 fun a=>.op (.mksl 6 64 z6_822 a a) fun a=>.loop [.int .i64 0] (fun b=>Ln 0 x0 fun c=>Bn .lss (g b 0) c fun c=>.ite c (Ix 6 x0 (g b 0) fun c=>Ld 6 c fun c=>Cl n_laws_toSpan [c] fun c=>Ix 6 a (g b 0) fun a=>.op (.st 6 a c) fun _=>Bn .add (g b 0) (.int .i64 1) fun a=>.leaf 0 [a]) (.leaf 2 [g b 0])) fun b c=>tsel b 1 (.leaf 1 c) (tsel b 2 (.fin [.val a]) .bad)
theorem c_laws_toSpanS (x0 : AV) : CC Tryz.prog n_laws_toSpanS [x0] (p_laws_toSpanS x0) := cc Tryz.func314 [0, 3, 4] (fun _ => [])
/- laws.eqSpanS -/
def p_laws_eqSpanS (x0 x1 : AV) : Prog := Ln 0 x0 fun a=>Ln 0 x1 fun b=>Bn .neq a b fun a=>.ite a (.fin [.val (.bool false)]) (.loop [.int .i64 0] (fun a=>Ln 0 x0 fun b=>Bn .lss (g a 0) b fun b=>.ite b (Ix 6 x0 (g a 0) fun b=>Ld 6 b fun b=>Ix 6 x1 (g a 0) fun c=>Ld 6 c fun c=>Cl n_laws_eqSpan [b, c] fun b=>.op (.una .not b) fun b=>.ite b (.fin [.val (.bool false)]) (Bn .add (g a 0) (.int .i64 1) fun a=>.leaf 0 [a])) (.leaf 2 [g a 0])) fun a b=>tsel a 1 (.leaf 1 b) (tsel a 2 (.fin [.val (.bool true)]) .bad))
theorem c_laws_eqSpanS (x0 x1 : AV) : CC Tryz.prog n_laws_eqSpanS [x0, x1] (p_laws_eqSpanS x0 x1) := cc Tryz.func323 [0, 1, 5] (fun r => if r = 6 then [(0, []), (1, []), (2, []), (3, []), (4, []), (5, []), (6, []), (7, []), (8, []), (9, [])] else [])
/- laws.szSpanS -/
def p_laws_szSpanS (x0 x1 : AV) : Prog := Ln 0 x0 fun a=>Bn .sub x1 a fun a=>Bn .lss a (.int .i64 0) fun b=>.ite b (.fin [.val (.int .i64 (-1))]) (.loop [a, .int .i64 0] (fun a=>Ln 0 x0 fun b=>Bn .lss (g a 1) b fun b=>.ite b (Ix 6 x0 (g a 1) fun b=>Ld 6 b fun b=>Cl n_laws_szSpan [b, g a 0] fun b=>Bn .lss b (.int .i64 0) fun c=>.ite c (.fin [.val (.int .i64 (-1))]) (Bn .add (g a 1) (.int .i64 1) fun a=>.leaf 0 [b, a])) (.leaf 2 [g a 0, g a 1])) fun a b=>tsel a 1 (.leaf 1 b) (tsel a 2 (.fin [.val (g b 0)]) .bad))
theorem c_laws_szSpanS (x0 x1 : AV) : CC Tryz.prog n_laws_szSpanS [x0, x1] (p_laws_szSpanS x0 x1) := cc Tryz.func307 [0, 1, 5] (fun _ => [])
end
theorem s_laws_toSpan (x : Span) (hs : Sz.sz x ≤ 1048576) : CopyX Span Tryz.prog n_laws_toSpan x := by
  rintro cs F h ⟨v0, rfl, r0⟩
  have hs : (x.attrs.length + szs x.attrs) ≤ 1048576 := hs
  refine c_laws_toSpan _ ?_
  unfold p_laws_toSpan
  (repeat' first|refine vs ?_|(refine br ?_ ?_<;>intro _<;>try(exfalso;first|omega|contradiction))|((with_reducible refine g_callf n_laws_toAttrS ?_);(refine aw_call (copy_r s_laws_toAttrS slr_auto om_auto) ?_; rintro _ _ ⟨e_, _, _, _⟩; have n_ := e_.1; (try simp only [push_n, upd_n] at n_)))|((with_reducible refine g_idx ?_);((first|refine ix ?_|refine ixi ?_|(refine ixg ?_;intro _ _)|(refine ixgi ?_;intro _ _));first|rintro _ _ _ _ _ ⟨rfl,rfl⟩ _|rintro _ _ _ _ _ ⟨_,rfl,_⟩ _|rintro _ _ _ _ _ ⟨_,_,_,_,rfl,rfl,_,_⟩ _|intro _ _ _ _ _ _ _))|(refine sx ?_;intro _ _)|((with_reducible refine g_awp ?_);simp only [g0,g1,g2]))
  exact ⟨rfl, _, rfl, ext_auto, _, _, rfl, ⟨_, rfl, slr_auto⟩, ol_auto⟩
theorem s_laws_eqSpan : EqC Span Tryz.prog n_laws_eqSpan := by
  rintro x cs cs' F F' h ⟨v0, rfl, r0⟩ ⟨u0, rfl, q0⟩
  refine reader (c_laws_eqSpan _ _) (by simp only [old]) ?_
  unfold p_laws_eqSpan
  (repeat' first|refine vs ?_|(refine br ?_ ?_<;>intro _<;>try(exfalso;first|omega|contradiction))|((with_reducible refine g_callf n_laws_eqAttrS ?_);refine aw_rcall (s_laws_eqAttrS _ _ _ _ _ _ slr_auto slr_auto) ?_)|((with_reducible refine g_idx ?_);((first|refine ix ?_|refine ixi ?_|(refine ixg ?_;intro _ _)|(refine ixgi ?_;intro _ _));first|rintro _ _ _ _ _ ⟨rfl,rfl⟩ _|rintro _ _ _ _ _ ⟨_,rfl,_⟩ _|rintro _ _ _ _ _ ⟨_,_,_,_,rfl,rfl,_,_⟩ _|intro _ _ _ _ _ _ _))|(refine sx ?_;intro _ _)|((with_reducible refine g_awp ?_);simp only [g0,g1,g2]))
  exact pb rfl
theorem s_laws_szSpan : SzC Span Tryz.prog n_laws_szSpan := by
  rintro x ok cs F b h ⟨v0, rfl, r0⟩ h0 h1
  obtain ⟨ok_trace, ok_id, ok_start, ok_fin, ok_attrs⟩ := ok
  have hS : Sz.sz x = (x.attrs.length + szs x.attrs) := rfl
  refine reader (c_laws_szSpan _ _) (by simp only [old]) ?_
  unfold p_laws_szSpan
  (repeat' first|refine vs ?_|(refine br ?_ ?_<;>intro _<;>try(exfalso;first|omega|contradiction))|((with_reducible refine g_callf n_laws_szAttrS ?_);(refine aw_sz (szl s_laws_szAttrS slr_auto (by assumption) om_auto om_auto) (fun _ => ?_) (fun _ => ?_)))|((with_reducible refine g_idx ?_);((first|refine ix ?_|refine ixi ?_|(refine ixg ?_;intro _ _)|(refine ixgi ?_;intro _ _));first|rintro _ _ _ _ _ ⟨rfl,rfl⟩ _|rintro _ _ _ _ _ ⟨_,rfl,_⟩ _|rintro _ _ _ _ _ ⟨_,_,_,_,rfl,rfl,_,_⟩ _|intro _ _ _ _ _ _ _))|(refine sx ?_;intro _ _)|((with_reducible refine g_awp ?_);simp only [g0,g1,g2]))
  all_goals (refine pi ?_; unfold szr; split <;> omega)
theorem s_laws_toSpanS (xs : List Span) (hs : xs.length + szs xs ≤ 1048576) : CopyL Tryz.prog n_laws_toSpanS xs := copyL_of rfl rfl (by decide) hs (fun x hx => s_laws_toSpan x hx) (fun g => c_laws_toSpanS _ g)
theorem s_laws_eqSpanS : EqS Span Tryz.prog n_laws_eqSpanS := fun xs v v' F F' h r r' => reader (c_laws_eqSpanS _ _) (by simp only [old]) (eqS_spec rfl s_laws_eqSpan r r')
theorem s_laws_szSpanS : SzL Span Tryz.prog n_laws_szSpanS := fun xs ok v F b h r h0 h1 => reader (c_laws_szSpanS _ _) (by simp only [old]) (szS_spec rfl s_laws_szSpan ok r h0 h1)
end Go.Proofs.YtekfdoknfcedpaaGreat
end
section
/- Trail: copies, comparisons, sizes. Written by mkl.py. -/
set_option linter.unusedSimpArgs false
set_option linter.unusedVariables false
set_option maxHeartbeats 1000000
namespace Go.Proofs.YtekfdoknfcedpaaGreat
open Go Go.Ab
section
/- laws.toTrail -/
def p_laws_toTrail (x0 : AV) : Prog := .op (.box x0) fun a=>.op (.alloc [.int .i64 0, .int .i64 0, .int .i64 0, .nils]) fun b=>.op (.alloc [.int .i64 0, .int .i64 0, .int .i64 0, .nils]) fun c=>Lg 0 a fun d=>Sg 0 c d fun _=>Lg 1 a fun d=>Sg 1 c d fun _=>Lg 2 a fun d=>Sg 2 c d fun _=>Lg 3 a fun a=>Cl n_laws_toSpanS [a] fun a=>Sg 3 c a fun _=>Ld 4 c fun a=>.op (.st 4 b a) fun _=>.fin [.cn 4 b]
theorem c_laws_toTrail (x0 : AV) : CC Tryz.prog n_laws_toTrail [x0] (p_laws_toTrail x0) := cc Tryz.func265
/- laws.eqTrail -/
def p_laws_eqTrail (x0 x1 : AV) : Prog := .op (.box x0) fun a=>.op (.box x1) fun b=>Lg 0 a fun c=>Lg 0 b fun d=>Bn .neq c d fun c=>.ite c (.fin [.val (.bool false)]) (Lg 1 a fun c=>Lg 1 b fun d=>Bn .neq c d fun c=>.ite c (.fin [.val (.bool false)]) (Lg 2 a fun c=>Lg 2 b fun d=>Bn .neq c d fun c=>.ite c (.fin [.val (.bool false)]) (Lg 3 a fun a=>Lg 3 b fun b=>Cl n_laws_eqSpanS [a, b] fun a=>.op (.una .not a) fun a=>.ite a (.fin [.val (.bool false)]) (.fin [.val (.bool true)]))))
theorem c_laws_eqTrail (x0 x1 : AV) : CC Tryz.prog n_laws_eqTrail [x0, x1] (p_laws_eqTrail x0 x1) := cc Tryz.func295
/- laws.szTrail -/
def p_laws_szTrail (x0 x1 : AV) : Prog := .op (.box x0) fun a=>Lg 3 a fun a=>Cl n_laws_szSpanS [a, x1] fun a=>Bn .lss a (.int .i64 0) fun b=>.ite b (.fin [.val (.int .i64 (-1))]) (.fin [.val a])
theorem c_laws_szTrail (x0 x1 : AV) : CC Tryz.prog n_laws_szTrail [x0, x1] (p_laws_szTrail x0 x1) := cc Tryz.func247
/- laws.toTrailS -/
def p_laws_toTrailS (x0 : AV) : Prog := Ln 0 x0 fun a=>.op (.mksl 4 48 [.int .i64 0, .int .i64 0, .int .i64 0, .nils] a a) fun a=>.loop [.int .i64 0] (fun b=>Ln 0 x0 fun c=>Bn .lss (g b 0) c fun c=>.ite c (Ix 4 x0 (g b 0) fun c=>Ld 4 c fun c=>Cl n_laws_toTrail [c] fun c=>Ix 4 a (g b 0) fun a=>.op (.st 4 a c) fun _=>Bn .add (g b 0) (.int .i64 1) fun a=>.leaf 0 [a]) (.leaf 2 [g b 0])) fun b c=>tsel b 1 (.leaf 1 c) (tsel b 2 (.fin [.val a]) .bad)
theorem c_laws_toTrailS (x0 : AV) : CC Tryz.prog n_laws_toTrailS [x0] (p_laws_toTrailS x0) := cc Tryz.func191 [0, 3, 4] (fun _ => [])
/- laws.eqTrailS -/
def p_laws_eqTrailS (x0 x1 : AV) : Prog := Ln 0 x0 fun a=>Ln 0 x1 fun b=>Bn .neq a b fun a=>.ite a (.fin [.val (.bool false)]) (.loop [.int .i64 0] (fun a=>Ln 0 x0 fun b=>Bn .lss (g a 0) b fun b=>.ite b (Ix 4 x0 (g a 0) fun b=>Ld 4 b fun b=>Ix 4 x1 (g a 0) fun c=>Ld 4 c fun c=>Cl n_laws_eqTrail [b, c] fun b=>.op (.una .not b) fun b=>.ite b (.fin [.val (.bool false)]) (Bn .add (g a 0) (.int .i64 1) fun a=>.leaf 0 [a])) (.leaf 2 [g a 0])) fun a b=>tsel a 1 (.leaf 1 b) (tsel a 2 (.fin [.val (.bool true)]) .bad))
theorem c_laws_eqTrailS (x0 x1 : AV) : CC Tryz.prog n_laws_eqTrailS [x0, x1] (p_laws_eqTrailS x0 x1) := cc Tryz.func225 [0, 1, 5] (fun r => if r = 6 then [(0, []), (1, []), (2, []), (3, []), (4, []), (5, []), (6, []), (7, []), (8, []), (9, [])] else [])
/- laws.szTrailS -/
def p_laws_szTrailS (x0 x1 : AV) : Prog := Ln 0 x0 fun a=>Bn .sub x1 a fun a=>Bn .lss a (.int .i64 0) fun b=>.ite b (.fin [.val (.int .i64 (-1))]) (.loop [a, .int .i64 0] (fun a=>Ln 0 x0 fun b=>Bn .lss (g a 1) b fun b=>.ite b (Ix 4 x0 (g a 1) fun b=>Ld 4 b fun b=>Cl n_laws_szTrail [b, g a 0] fun b=>Bn .lss b (.int .i64 0) fun c=>.ite c (.fin [.val (.int .i64 (-1))]) (Bn .add (g a 1) (.int .i64 1) fun a=>.leaf 0 [b, a])) (.leaf 2 [g a 0, g a 1])) fun a b=>tsel a 1 (.leaf 1 b) (tsel a 2 (.fin [.val (g b 0)]) .bad))
theorem c_laws_szTrailS (x0 x1 : AV) : CC Tryz.prog n_laws_szTrailS [x0, x1] (p_laws_szTrailS x0 x1) := cc Tryz.func168 [0, 1, 5] (fun _ => [])
end
theorem s_laws_toTrail (x : Trail) (hs : Sz.sz x ≤ 1048576) : CopyX Trail Tryz.prog n_laws_toTrail x := by
  rintro cs F h ⟨v0, rfl, r0⟩
  have hs : (x.spans.length + szs x.spans) ≤ 1048576 := hs
  refine c_laws_toTrail _ ?_
  unfold p_laws_toTrail
  (repeat' first|refine vs ?_|(refine br ?_ ?_<;>intro _<;>try(exfalso;first|omega|contradiction))|((with_reducible refine g_callf n_laws_toSpanS ?_);(refine aw_call (copy_r s_laws_toSpanS slr_auto om_auto) ?_; rintro _ _ ⟨e_, _, _, _⟩; have n_ := e_.1; (try simp only [push_n, upd_n] at n_)))|((with_reducible refine g_idx ?_);((first|refine ix ?_|refine ixi ?_|(refine ixg ?_;intro _ _)|(refine ixgi ?_;intro _ _));first|rintro _ _ _ _ _ ⟨rfl,rfl⟩ _|rintro _ _ _ _ _ ⟨_,rfl,_⟩ _|rintro _ _ _ _ _ ⟨_,_,_,_,rfl,rfl,_,_⟩ _|intro _ _ _ _ _ _ _))|(refine sx ?_;intro _ _)|((with_reducible refine g_awp ?_);simp only [g0,g1,g2]))
  exact ⟨rfl, _, rfl, ext_auto, _, _, rfl, ⟨_, rfl, slr_auto⟩, ol_auto⟩
theorem s_laws_eqTrail : EqC Trail Tryz.prog n_laws_eqTrail := by
  rintro x cs cs' F F' h ⟨v0, rfl, r0⟩ ⟨u0, rfl, q0⟩
  refine reader (c_laws_eqTrail _ _) (by simp only [old]) ?_
  unfold p_laws_eqTrail
  (repeat' first|refine vs ?_|(refine br ?_ ?_<;>intro _<;>try(exfalso;first|omega|contradiction))|((with_reducible refine g_callf n_laws_eqSpanS ?_);refine aw_rcall (s_laws_eqSpanS _ _ _ _ _ _ slr_auto slr_auto) ?_)|((with_reducible refine g_idx ?_);((first|refine ix ?_|refine ixi ?_|(refine ixg ?_;intro _ _)|(refine ixgi ?_;intro _ _));first|rintro _ _ _ _ _ ⟨rfl,rfl⟩ _|rintro _ _ _ _ _ ⟨_,rfl,_⟩ _|rintro _ _ _ _ _ ⟨_,_,_,_,rfl,rfl,_,_⟩ _|intro _ _ _ _ _ _ _))|(refine sx ?_;intro _ _)|((with_reducible refine g_awp ?_);simp only [g0,g1,g2]))
  exact pb rfl
theorem s_laws_szTrail : SzC Trail Tryz.prog n_laws_szTrail := by
  rintro x ok cs F b h ⟨v0, rfl, r0⟩ h0 h1
  obtain ⟨ok_id, ok_stamp, ok_first, ok_spans⟩ := ok
  have hS : Sz.sz x = (x.spans.length + szs x.spans) := rfl
  refine reader (c_laws_szTrail _ _) (by simp only [old]) ?_
  unfold p_laws_szTrail
  (repeat' first|refine vs ?_|(refine br ?_ ?_<;>intro _<;>try(exfalso;first|omega|contradiction))|((with_reducible refine g_callf n_laws_szSpanS ?_);(refine aw_sz (szl s_laws_szSpanS slr_auto (by assumption) om_auto om_auto) (fun _ => ?_) (fun _ => ?_)))|((with_reducible refine g_idx ?_);((first|refine ix ?_|refine ixi ?_|(refine ixg ?_;intro _ _)|(refine ixgi ?_;intro _ _));first|rintro _ _ _ _ _ ⟨rfl,rfl⟩ _|rintro _ _ _ _ _ ⟨_,rfl,_⟩ _|rintro _ _ _ _ _ ⟨_,_,_,_,rfl,rfl,_,_⟩ _|intro _ _ _ _ _ _ _))|(refine sx ?_;intro _ _)|((with_reducible refine g_awp ?_);simp only [g0,g1,g2]))
  all_goals (refine pi ?_; unfold szr; split <;> omega)
theorem s_laws_toTrailS (xs : List Trail) (hs : xs.length + szs xs ≤ 1048576) : CopyL Tryz.prog n_laws_toTrailS xs := copyL_of rfl rfl (by decide) hs (fun x hx => s_laws_toTrail x hx) (fun g => c_laws_toTrailS _ g)
theorem s_laws_eqTrailS : EqS Trail Tryz.prog n_laws_eqTrailS := fun xs v v' F F' h r r' => reader (c_laws_eqTrailS _ _) (by simp only [old]) (eqS_spec rfl s_laws_eqTrail r r')
theorem s_laws_szTrailS : SzL Trail Tryz.prog n_laws_szTrailS := fun xs ok v F b h r h0 h1 => reader (c_laws_szTrailS _ _) (by simp only [old]) (szS_spec rfl s_laws_szTrail ok r h0 h1)
end Go.Proofs.YtekfdoknfcedpaaGreat
end
section
/- Stripe: copies, comparisons, sizes. Written by mkl.py. -/
set_option linter.unusedSimpArgs false
set_option linter.unusedVariables false
set_option maxHeartbeats 1000000
namespace Go.Proofs.YtekfdoknfcedpaaGreat
open Go Go.Ab
section
/- laws.toStripe -/
def p_laws_toStripe (x0 : AV) : Prog := .op (.box x0) fun a=>.op (.alloc [.int .i64 0, .nils]) fun b=>.op (.alloc [.int .i64 0, .nils]) fun c=>Lg 0 a fun d=>Sg 0 c d fun _=>Lg 1 a fun a=>Cl n_laws_toTrailS [a] fun a=>Sg 1 c a fun _=>Ld 2 c fun a=>.op (.st 2 b a) fun _=>.fin [.cn 2 b]
theorem c_laws_toStripe (x0 : AV) : CC Tryz.prog n_laws_toStripe [x0] (p_laws_toStripe x0) := cc Tryz.func112
/- laws.eqStripe -/
def p_laws_eqStripe (x0 x1 : AV) : Prog := .op (.box x0) fun a=>.op (.box x1) fun b=>Lg 0 a fun c=>Lg 0 b fun d=>Bn .neq c d fun c=>.ite c (.fin [.val (.bool false)]) (Lg 1 a fun a=>Lg 1 b fun b=>Cl n_laws_eqTrailS [a, b] fun a=>.op (.una .not a) fun a=>.ite a (.fin [.val (.bool false)]) (.fin [.val (.bool true)]))
theorem c_laws_eqStripe (x0 x1 : AV) : CC Tryz.prog n_laws_eqStripe [x0, x1] (p_laws_eqStripe x0 x1) := cc Tryz.func136
/- laws.szStripe -/
def p_laws_szStripe (x0 x1 : AV) : Prog := .op (.box x0) fun a=>Lg 1 a fun a=>Cl n_laws_szTrailS [a, x1] fun a=>Bn .lss a (.int .i64 0) fun b=>.ite b (.fin [.val (.int .i64 (-1))]) (.fin [.val a])
theorem c_laws_szStripe (x0 x1 : AV) : CC Tryz.prog n_laws_szStripe [x0, x1] (p_laws_szStripe x0 x1) := cc Tryz.func86
/- laws.toStripeS -/
def p_laws_toStripeS (x0 : AV) : Prog := Ln 0 x0 fun a=>.op (.mksl 2 32 [.int .i64 0, .nils] a a) fun a=>.loop [.int .i64 0] (fun b=>Ln 0 x0 fun c=>Bn .lss (g b 0) c fun c=>.ite c (Ix 2 x0 (g b 0) fun c=>Ld 2 c fun c=>Cl n_laws_toStripe [c] fun c=>Ix 2 a (g b 0) fun a=>.op (.st 2 a c) fun _=>Bn .add (g b 0) (.int .i64 1) fun a=>.leaf 0 [a]) (.leaf 2 [g b 0])) fun b c=>tsel b 1 (.leaf 1 c) (tsel b 2 (.fin [.val a]) .bad)
theorem c_laws_toStripeS (x0 : AV) : CC Tryz.prog n_laws_toStripeS [x0] (p_laws_toStripeS x0) := cc Tryz.func34 [0, 3, 4] (fun _ => [])
/- laws.eqStripeS -/
def p_laws_eqStripeS (x0 x1 : AV) : Prog := Ln 0 x0 fun a=>Ln 0 x1 fun b=>Bn .neq a b fun a=>.ite a (.fin [.val (.bool false)]) (.loop [.int .i64 0] (fun a=>Ln 0 x0 fun b=>Bn .lss (g a 0) b fun b=>.ite b (Ix 2 x0 (g a 0) fun b=>Ld 2 b fun b=>Ix 2 x1 (g a 0) fun c=>Ld 2 c fun c=>Cl n_laws_eqStripe [b, c] fun b=>.op (.una .not b) fun b=>.ite b (.fin [.val (.bool false)]) (Bn .add (g a 0) (.int .i64 1) fun a=>.leaf 0 [a])) (.leaf 2 [g a 0])) fun a b=>tsel a 1 (.leaf 1 b) (tsel a 2 (.fin [.val (.bool true)]) .bad))
theorem c_laws_eqStripeS (x0 x1 : AV) : CC Tryz.prog n_laws_eqStripeS [x0, x1] (p_laws_eqStripeS x0 x1) := cc Tryz.func49 [0, 1, 5] (fun r => if r = 6 then [(0, []), (1, []), (2, []), (3, []), (4, []), (5, []), (6, []), (7, []), (8, []), (9, [])] else [])
/- laws.szStripeS -/
def p_laws_szStripeS (x0 x1 : AV) : Prog := Ln 0 x0 fun a=>Bn .sub x1 a fun a=>Bn .lss a (.int .i64 0) fun b=>.ite b (.fin [.val (.int .i64 (-1))]) (.loop [a, .int .i64 0] (fun a=>Ln 0 x0 fun b=>Bn .lss (g a 1) b fun b=>.ite b (Ix 2 x0 (g a 1) fun b=>Ld 2 b fun b=>Cl n_laws_szStripe [b, g a 0] fun b=>Bn .lss b (.int .i64 0) fun c=>.ite c (.fin [.val (.int .i64 (-1))]) (Bn .add (g a 1) (.int .i64 1) fun a=>.leaf 0 [b, a])) (.leaf 2 [g a 0, g a 1])) fun a b=>tsel a 1 (.leaf 1 b) (tsel a 2 (.fin [.val (g b 0)]) .bad))
theorem c_laws_szStripeS (x0 x1 : AV) : CC Tryz.prog n_laws_szStripeS [x0, x1] (p_laws_szStripeS x0 x1) := cc Tryz.func22 [0, 1, 5] (fun _ => [])
end
theorem s_laws_toStripe (x : Stripe) (hs : Sz.sz x ≤ 1048576) : CopyX Stripe Tryz.prog n_laws_toStripe x := by
  rintro cs F h ⟨v0, rfl, r0⟩
  have hs : (x.l.length + szs x.l) ≤ 1048576 := hs
  refine c_laws_toStripe _ ?_
  unfold p_laws_toStripe
  (repeat' first|refine vs ?_|(refine br ?_ ?_<;>intro _<;>try(exfalso;first|omega|contradiction))|((with_reducible refine g_callf n_laws_toTrailS ?_);(refine aw_call (copy_r s_laws_toTrailS slr_auto om_auto) ?_; rintro _ _ ⟨e_, _, _, _⟩; have n_ := e_.1; (try simp only [push_n, upd_n] at n_)))|((with_reducible refine g_idx ?_);((first|refine ix ?_|refine ixi ?_|(refine ixg ?_;intro _ _)|(refine ixgi ?_;intro _ _));first|rintro _ _ _ _ _ ⟨rfl,rfl⟩ _|rintro _ _ _ _ _ ⟨_,rfl,_⟩ _|rintro _ _ _ _ _ ⟨_,_,_,_,rfl,rfl,_,_⟩ _|intro _ _ _ _ _ _ _))|(refine sx ?_;intro _ _)|((with_reducible refine g_awp ?_);simp only [g0,g1,g2]))
  exact ⟨rfl, _, rfl, ext_auto, _, _, rfl, ⟨_, rfl, slr_auto⟩, ol_auto⟩
theorem s_laws_eqStripe : EqC Stripe Tryz.prog n_laws_eqStripe := by
  rintro x cs cs' F F' h ⟨v0, rfl, r0⟩ ⟨u0, rfl, q0⟩
  refine reader (c_laws_eqStripe _ _) (by simp only [old]) ?_
  unfold p_laws_eqStripe
  (repeat' first|refine vs ?_|(refine br ?_ ?_<;>intro _<;>try(exfalso;first|omega|contradiction))|((with_reducible refine g_callf n_laws_eqTrailS ?_);refine aw_rcall (s_laws_eqTrailS _ _ _ _ _ _ slr_auto slr_auto) ?_)|((with_reducible refine g_idx ?_);((first|refine ix ?_|refine ixi ?_|(refine ixg ?_;intro _ _)|(refine ixgi ?_;intro _ _));first|rintro _ _ _ _ _ ⟨rfl,rfl⟩ _|rintro _ _ _ _ _ ⟨_,rfl,_⟩ _|rintro _ _ _ _ _ ⟨_,_,_,_,rfl,rfl,_,_⟩ _|intro _ _ _ _ _ _ _))|(refine sx ?_;intro _ _)|((with_reducible refine g_awp ?_);simp only [g0,g1,g2]))
  exact pb rfl
theorem s_laws_szStripe : SzC Stripe Tryz.prog n_laws_szStripe := by
  rintro x ok cs F b h ⟨v0, rfl, r0⟩ h0 h1
  obtain ⟨ok_held, ok_l⟩ := ok
  have hS : Sz.sz x = (x.l.length + szs x.l) := rfl
  refine reader (c_laws_szStripe _ _) (by simp only [old]) ?_
  unfold p_laws_szStripe
  (repeat' first|refine vs ?_|(refine br ?_ ?_<;>intro _<;>try(exfalso;first|omega|contradiction))|((with_reducible refine g_callf n_laws_szTrailS ?_);(refine aw_sz (s_laws_szTrailS _ (by assumption) _ _ _ _ slr_auto om_auto om_auto) (fun _ => ?_) (fun _ => ?_)))|((with_reducible refine g_idx ?_);((first|refine ix ?_|refine ixi ?_|(refine ixg ?_;intro _ _)|(refine ixgi ?_;intro _ _));first|rintro _ _ _ _ _ ⟨rfl,rfl⟩ _|rintro _ _ _ _ _ ⟨_,rfl,_⟩ _|rintro _ _ _ _ _ ⟨_,_,_,_,rfl,rfl,_,_⟩ _|intro _ _ _ _ _ _ _))|(refine sx ?_;intro _ _)|((with_reducible refine g_awp ?_);simp only [g0,g1,g2]))
  all_goals (refine pi ?_; unfold szr; split <;> omega)
theorem s_laws_toStripeS (xs : List Stripe) (hs : xs.length + szs xs ≤ 1048576) : CopyL Tryz.prog n_laws_toStripeS xs := copyL_of rfl rfl (by decide) hs (fun x hx => s_laws_toStripe x hx) (fun g => c_laws_toStripeS _ g)
theorem s_laws_eqStripeS : EqS Stripe Tryz.prog n_laws_eqStripeS := fun xs v v' F F' h r r' => reader (c_laws_eqStripeS _ _) (by simp only [old]) (eqS_spec rfl s_laws_eqStripe r r')
theorem s_laws_szStripeS : SzL Stripe Tryz.prog n_laws_szStripeS := fun xs ok v F b h r h0 h1 => reader (c_laws_szStripeS _ _) (by simp only [old]) (szS_spec rfl s_laws_szStripe ok r h0 h1)
end Go.Proofs.YtekfdoknfcedpaaGreat
end
section
/- Itm: copies, comparisons, sizes. Written by mkl.py. -/
set_option linter.unusedSimpArgs false
set_option linter.unusedVariables false
set_option maxHeartbeats 1000000
namespace Go.Proofs.YtekfdoknfcedpaaGreat
open Go Go.Ab
section
/- laws.toItem -/
def p_laws_toItem (x0 : AV) : Prog := .op (.box x0) fun a=>.op (.alloc z7_a90) fun b=>.op (.alloc z7_a90) fun c=>Lg 0 a fun d=>Sg 0 c d fun _=>.op (.fad 1 a) fun a=>Ld 6 a fun a=>Cl n_laws_toSpan [a] fun a=>.op (.fad 1 c) fun d=>.op (.st 6 d a) fun _=>Ld 7 c fun a=>.op (.st 7 b a) fun _=>.fin [.cn 7 b]
theorem c_laws_toItem (x0 : AV) : CC Tryz.prog n_laws_toItem [x0] (p_laws_toItem x0) := cc Tryz.func116
/- laws.eqItem -/
def p_laws_eqItem (x0 x1 : AV) : Prog := .op (.box x0) fun a=>.op (.box x1) fun b=>Lg 0 a fun c=>Lg 0 b fun d=>Bn .neq c d fun c=>.ite c (.fin [.val (.bool false)]) (.op (.fad 1 a) fun a=>Ld 6 a fun a=>.op (.fad 1 b) fun b=>Ld 6 b fun b=>Cl n_laws_eqSpan [a, b] fun a=>.op (.una .not a) fun a=>.ite a (.fin [.val (.bool false)]) (.fin [.val (.bool true)]))
theorem c_laws_eqItem (x0 x1 : AV) : CC Tryz.prog n_laws_eqItem [x0, x1] (p_laws_eqItem x0 x1) := cc Tryz.func140
/- laws.szItem -/
def p_laws_szItem (x0 x1 : AV) : Prog := .op (.box x0) fun a=>.op (.fad 1 a) fun a=>Ld 6 a fun a=>Cl n_laws_szSpan [a, x1] fun a=>Bn .lss a (.int .i64 0) fun b=>.ite b (.fin [.val (.int .i64 (-1))]) (.fin [.val a])
theorem c_laws_szItem (x0 x1 : AV) : CC Tryz.prog n_laws_szItem [x0, x1] (p_laws_szItem x0 x1) := cc Tryz.func88
/- laws.toItemS -/
def p_laws_toItemS (x0 : AV) : Prog := Ln 0 x0 fun a=>.op (.mksl 7 72 z7_a90 a a) fun a=>.loop [.int .i64 0] (fun b=>Ln 0 x0 fun c=>Bn .lss (g b 0) c fun c=>.ite c (Ix 7 x0 (g b 0) fun c=>Ld 7 c fun c=>Cl n_laws_toItem [c] fun c=>Ix 7 a (g b 0) fun a=>.op (.st 7 a c) fun _=>Bn .add (g b 0) (.int .i64 1) fun a=>.leaf 0 [a]) (.leaf 2 [g b 0])) fun b c=>tsel b 1 (.leaf 1 c) (tsel b 2 (.fin [.val a]) .bad)
theorem c_laws_toItemS (x0 : AV) : CC Tryz.prog n_laws_toItemS [x0] (p_laws_toItemS x0) := cc Tryz.func39 [0, 3, 4] (fun _ => [])
/- laws.eqItemS -/
def p_laws_eqItemS (x0 x1 : AV) : Prog := Ln 0 x0 fun a=>Ln 0 x1 fun b=>Bn .neq a b fun a=>.ite a (.fin [.val (.bool false)]) (.loop [.int .i64 0] (fun a=>Ln 0 x0 fun b=>Bn .lss (g a 0) b fun b=>.ite b (Ix 7 x0 (g a 0) fun b=>Ld 7 b fun b=>Ix 7 x1 (g a 0) fun c=>Ld 7 c fun c=>Cl n_laws_eqItem [b, c] fun b=>.op (.una .not b) fun b=>.ite b (.fin [.val (.bool false)]) (Bn .add (g a 0) (.int .i64 1) fun a=>.leaf 0 [a])) (.leaf 2 [g a 0])) fun a b=>tsel a 1 (.leaf 1 b) (tsel a 2 (.fin [.val (.bool true)]) .bad))
theorem c_laws_eqItemS (x0 x1 : AV) : CC Tryz.prog n_laws_eqItemS [x0, x1] (p_laws_eqItemS x0 x1) := cc Tryz.func54 [0, 1, 5] (fun r => if r = 6 then [(0, []), (1, []), (2, []), (3, []), (4, []), (5, []), (6, []), (7, []), (8, []), (9, [])] else [])
/- laws.szItemS -/
def p_laws_szItemS (x0 x1 : AV) : Prog := Ln 0 x0 fun a=>Bn .sub x1 a fun a=>Bn .lss a (.int .i64 0) fun b=>.ite b (.fin [.val (.int .i64 (-1))]) (.loop [a, .int .i64 0] (fun a=>Ln 0 x0 fun b=>Bn .lss (g a 1) b fun b=>.ite b (Ix 7 x0 (g a 1) fun b=>Ld 7 b fun b=>Cl n_laws_szItem [b, g a 0] fun b=>Bn .lss b (.int .i64 0) fun c=>.ite c (.fin [.val (.int .i64 (-1))]) (Bn .add (g a 1) (.int .i64 1) fun a=>.leaf 0 [b, a])) (.leaf 2 [g a 0, g a 1])) fun a b=>tsel a 1 (.leaf 1 b) (tsel a 2 (.fin [.val (g b 0)]) .bad))
theorem c_laws_szItemS (x0 x1 : AV) : CC Tryz.prog n_laws_szItemS [x0, x1] (p_laws_szItemS x0 x1) := cc Tryz.func26 [0, 1, 5] (fun _ => [])
end
theorem s_laws_toItem (x : Itm) (hs : Sz.sz x ≤ 1048576) : CopyX Itm Tryz.prog n_laws_toItem x := by
  rintro cs F h ⟨v0, rfl, r0⟩
  have hs : Sz.sz x.s ≤ 1048576 := hs
  have e_s : Sz.sz x.s = (x.s.attrs.length + szs x.s.attrs) := rfl
  refine c_laws_toItem _ ?_
  unfold p_laws_toItem
  (repeat' first|refine vs ?_|(refine br ?_ ?_<;>intro _<;>try(exfalso;first|omega|contradiction))|((with_reducible refine g_callf n_laws_toSpan ?_);(refine aw_call (s_laws_toSpan _ om_auto _ _ _ ⟨_, rfl, slr_auto⟩) ?_; rintro _ _ ⟨e_, _, _, rfl, ⟨_, rfl, _⟩, _⟩; have n_ := e_.1; (try simp only [push_n, upd_n] at n_)))|((with_reducible refine g_idx ?_);((first|refine ix ?_|refine ixi ?_|(refine ixg ?_;intro _ _)|(refine ixgi ?_;intro _ _));first|rintro _ _ _ _ _ ⟨rfl,rfl⟩ _|rintro _ _ _ _ _ ⟨_,rfl,_⟩ _|rintro _ _ _ _ _ ⟨_,_,_,_,rfl,rfl,_,_⟩ _|intro _ _ _ _ _ _ _))|(refine sx ?_;intro _ _)|((with_reducible refine g_awp ?_);simp only [g0,g1,g2]))
  exact ⟨rfl, _, rfl, ext_auto, _, _, rfl, ⟨_, rfl, slr_auto⟩, ol_auto⟩
theorem s_laws_eqItem : EqC Itm Tryz.prog n_laws_eqItem := by
  rintro x cs cs' F F' h ⟨v0, rfl, r0⟩ ⟨u0, rfl, q0⟩
  refine reader (c_laws_eqItem _ _) (by simp only [old]) ?_
  unfold p_laws_eqItem
  (repeat' first|refine vs ?_|(refine br ?_ ?_<;>intro _<;>try(exfalso;first|omega|contradiction))|((with_reducible refine g_callf n_laws_eqSpan ?_);refine aw_rcall (s_laws_eqSpan _ _ _ _ _ _ ⟨_, rfl, slr_auto⟩ ⟨_, rfl, slr_auto⟩) ?_)|((with_reducible refine g_idx ?_);((first|refine ix ?_|refine ixi ?_|(refine ixg ?_;intro _ _)|(refine ixgi ?_;intro _ _));first|rintro _ _ _ _ _ ⟨rfl,rfl⟩ _|rintro _ _ _ _ _ ⟨_,rfl,_⟩ _|rintro _ _ _ _ _ ⟨_,_,_,_,rfl,rfl,_,_⟩ _|intro _ _ _ _ _ _ _))|(refine sx ?_;intro _ _)|((with_reducible refine g_awp ?_);simp only [g0,g1,g2]))
  exact pb rfl
theorem s_laws_szItem : SzC Itm Tryz.prog n_laws_szItem := by
  rintro x ok cs F b h ⟨v0, rfl, r0⟩ h0 h1
  obtain ⟨ok_stamp, ok_s⟩ := ok
  have hS : Sz.sz x = Sz.sz x.s := rfl
  have e_s : Sz.sz x.s = (x.s.attrs.length + szs x.s.attrs) := rfl
  refine reader (c_laws_szItem _ _) (by simp only [old]) ?_
  unfold p_laws_szItem
  (repeat' first|refine vs ?_|(refine br ?_ ?_<;>intro _<;>try(exfalso;first|omega|contradiction))|((with_reducible refine g_callf n_laws_szSpan ?_);(refine aw_sz (s_laws_szSpan _ (by assumption) _ _ _ _ ⟨_, rfl, slr_auto⟩ om_auto om_auto) (fun _ => ?_) (fun _ => ?_)))|((with_reducible refine g_idx ?_);((first|refine ix ?_|refine ixi ?_|(refine ixg ?_;intro _ _)|(refine ixgi ?_;intro _ _));first|rintro _ _ _ _ _ ⟨rfl,rfl⟩ _|rintro _ _ _ _ _ ⟨_,rfl,_⟩ _|rintro _ _ _ _ _ ⟨_,_,_,_,rfl,rfl,_,_⟩ _|intro _ _ _ _ _ _ _))|(refine sx ?_;intro _ _)|((with_reducible refine g_awp ?_);simp only [g0,g1,g2]))
  all_goals (refine pi ?_; unfold szr; split <;> omega)
theorem s_laws_toItemS (xs : List Itm) (hs : xs.length + szs xs ≤ 1048576) : CopyL Tryz.prog n_laws_toItemS xs := copyL_of rfl rfl (by decide) hs (fun x hx => s_laws_toItem x hx) (fun g => c_laws_toItemS _ g)
theorem s_laws_eqItemS : EqS Itm Tryz.prog n_laws_eqItemS := fun xs v v' F F' h r r' => reader (c_laws_eqItemS _ _) (by simp only [old]) (eqS_spec rfl s_laws_eqItem r r')
theorem s_laws_szItemS : SzL Itm Tryz.prog n_laws_szItemS := fun xs ok v F b h r h0 h1 => reader (c_laws_szItemS _ _) (by simp only [old]) (szS_spec rfl s_laws_szItem ok r h0 h1)
end Go.Proofs.YtekfdoknfcedpaaGreat
end
section
/- Task: copies, comparisons, sizes. Written by mkl.py. -/
set_option linter.unusedSimpArgs false
set_option linter.unusedVariables false
set_option maxHeartbeats 1000000
namespace Go.Proofs.YtekfdoknfcedpaaGreat
open Go Go.Ab
section
/- laws.toTask -/
def p_laws_toTask (x0 : AV) : Prog := .op (.box x0) fun a=>.op (.alloc z12_f83) fun b=>.op (.alloc z12_f83) fun c=>Lg 0 a fun d=>Sg 0 c d fun _=>Lg 1 a fun d=>Sg 1 c d fun _=>.op (.fad 2 a) fun d=>Ld 6 d fun d=>Cl n_laws_toSpan [d] fun d=>.op (.fad 2 c) fun e=>.op (.st 6 e d) fun _=>Lg 8 a fun d=>Sg 8 c d fun _=>Lg 9 a fun d=>Sg 9 c d fun _=>Lg 10 a fun d=>Cl n_laws_toItemS [d] fun d=>Sg 10 c d fun _=>Lg 11 a fun a=>Sg 11 c a fun _=>Ld 12 c fun a=>.op (.st 12 b a) fun _=>.fin [.cn 12 b]
theorem c_laws_toTask (x0 : AV) : CC Tryz.prog n_laws_toTask [x0] (p_laws_toTask x0) := cc Tryz.func117
/- laws.eqTask -/
def p_laws_eqTask (x0 x1 : AV) : Prog := .op (.box x0) fun a=>.op (.box x1) fun b=>Lg 0 a fun c=>Lg 0 b fun d=>Bn .neq c d fun c=>.ite c (.fin [.val (.bool false)]) (Lg 1 a fun c=>Lg 1 b fun d=>Bn .neq c d fun c=>.ite c (.fin [.val (.bool false)]) (.op (.fad 2 a) fun c=>Ld 6 c fun c=>.op (.fad 2 b) fun d=>Ld 6 d fun d=>Cl n_laws_eqSpan [c, d] fun c=>.op (.una .not c) fun c=>.ite c (.fin [.val (.bool false)]) (Lg 8 a fun c=>Lg 8 b fun d=>Bn .neq c d fun c=>.ite c (.fin [.val (.bool false)]) (Lg 9 a fun c=>Lg 9 b fun d=>Bn .neq c d fun c=>.ite c (.fin [.val (.bool false)]) (Lg 10 a fun c=>Lg 10 b fun d=>Cl n_laws_eqItemS [c, d] fun c=>.op (.una .not c) fun c=>.ite c (.fin [.val (.bool false)]) (Lg 11 a fun a=>Lg 11 b fun b=>Bn .neq a b fun a=>.ite a (.fin [.val (.bool false)]) (.fin [.val (.bool true)])))))))
theorem c_laws_eqTask (x0 x1 : AV) : CC Tryz.prog n_laws_eqTask [x0, x1] (p_laws_eqTask x0 x1) := cc Tryz.func141
/- laws.szTask -/
def p_laws_szTask (x0 x1 : AV) : Prog := .op (.box x0) fun a=>.op (.fad 2 a) fun b=>Ld 6 b fun b=>Cl n_laws_szSpan [b, x1] fun b=>Bn .lss b (.int .i64 0) fun c=>.ite c (.fin [.val (.int .i64 (-1))]) (Lg 10 a fun a=>Cl n_laws_szItemS [a, b] fun a=>Bn .lss a (.int .i64 0) fun b=>.ite b (.fin [.val (.int .i64 (-1))]) (.fin [.val a]))
theorem c_laws_szTask (x0 x1 : AV) : CC Tryz.prog n_laws_szTask [x0, x1] (p_laws_szTask x0 x1) := cc Tryz.func89
end
theorem s_laws_toTask (x : Task) (hs : Sz.sz x ≤ 1048576) : CopyX Task Tryz.prog n_laws_toTask x := by
  rintro cs F h ⟨v0, v1, F0, F1, rfl, rfl, r0, r1⟩
  have hs : Sz.sz x.s + (x.hand.length + szs x.hand) ≤ 1048576 := hs
  have e_s : Sz.sz x.s = (x.s.attrs.length + szs x.s.attrs) := rfl
  refine c_laws_toTask _ ?_
  unfold p_laws_toTask
  (repeat' first|refine vs ?_|(refine br ?_ ?_<;>intro _<;>try(exfalso;first|omega|contradiction))|((with_reducible refine g_callf n_laws_toSpan ?_);(refine aw_call (s_laws_toSpan _ om_auto _ _ _ ⟨_, rfl, slr_auto⟩) ?_; rintro _ _ ⟨e_, _, _, rfl, ⟨_, rfl, _⟩, _⟩; have n_ := e_.1; (try simp only [push_n, upd_n] at n_)))|((with_reducible refine g_callf n_laws_toItemS ?_);(refine aw_call (copy_r s_laws_toItemS slr_auto om_auto) ?_; rintro _ _ ⟨e_, _, _, _⟩; have n_ := e_.1; (try simp only [push_n, upd_n] at n_)))|((with_reducible refine g_idx ?_);((first|refine ix ?_|refine ixi ?_|(refine ixg ?_;intro _ _)|(refine ixgi ?_;intro _ _));first|rintro _ _ _ _ _ ⟨rfl,rfl⟩ _|rintro _ _ _ _ _ ⟨_,rfl,_⟩ _|rintro _ _ _ _ _ ⟨_,_,_,_,rfl,rfl,_,_⟩ _|intro _ _ _ _ _ _ _))|(refine sx ?_;intro _ _)|((with_reducible refine g_awp ?_);simp only [g0,g1,g2]))
  exact ⟨rfl, _, rfl, ext_auto, _, _, rfl, ⟨_, _, _, _, rfl, rfl, slr_auto, slr_auto⟩, (ol_app2 oll_auto oll_auto dis_auto).1⟩
theorem s_laws_eqTask : EqC Task Tryz.prog n_laws_eqTask := by
  rintro x cs cs' F F' h ⟨v0, v1, F0, F1, rfl, rfl, r0, r1⟩ ⟨u0, u1, G0, G1, rfl, rfl, q0, q1⟩
  refine reader (c_laws_eqTask _ _) (by simp only [old]) ?_
  unfold p_laws_eqTask
  (repeat' first|refine vs ?_|(refine br ?_ ?_<;>intro _<;>try(exfalso;first|omega|contradiction))|((with_reducible refine g_callf n_laws_eqSpan ?_);refine aw_rcall (s_laws_eqSpan _ _ _ _ _ _ ⟨_, rfl, slr_auto⟩ ⟨_, rfl, slr_auto⟩) ?_)|((with_reducible refine g_callf n_laws_eqItemS ?_);refine aw_rcall (s_laws_eqItemS _ _ _ _ _ _ slr_auto slr_auto) ?_)|((with_reducible refine g_idx ?_);((first|refine ix ?_|refine ixi ?_|(refine ixg ?_;intro _ _)|(refine ixgi ?_;intro _ _));first|rintro _ _ _ _ _ ⟨rfl,rfl⟩ _|rintro _ _ _ _ _ ⟨_,rfl,_⟩ _|rintro _ _ _ _ _ ⟨_,_,_,_,rfl,rfl,_,_⟩ _|intro _ _ _ _ _ _ _))|(refine sx ?_;intro _ _)|((with_reducible refine g_awp ?_);simp only [g0,g1,g2]))
  exact pb rfl
theorem s_laws_szTask : SzC Task Tryz.prog n_laws_szTask := by
  rintro x ok cs F b h ⟨v0, v1, F0, F1, rfl, rfl, r0, r1⟩ h0 h1
  obtain ⟨ok_op, ok_pc, ok_s, ok_trace, ok_stamp, ok_hand, ok_h⟩ := ok
  have hS : Sz.sz x = Sz.sz x.s + (x.hand.length + szs x.hand) := rfl
  have e_s : Sz.sz x.s = (x.s.attrs.length + szs x.s.attrs) := rfl
  refine reader (c_laws_szTask _ _) (by simp only [old]) ?_
  unfold p_laws_szTask
  (repeat' first|refine vs ?_|(refine br ?_ ?_<;>intro _<;>try(exfalso;first|omega|contradiction))|((with_reducible refine g_callf n_laws_szSpan ?_);(refine aw_sz (s_laws_szSpan _ (by assumption) _ _ _ _ ⟨_, rfl, slr_auto⟩ om_auto om_auto) (fun _ => ?_) (fun _ => ?_)))|((with_reducible refine g_callf n_laws_szItemS ?_);(refine aw_sz (szl s_laws_szItemS slr_auto (by assumption) om_auto om_auto) (fun _ => ?_) (fun _ => ?_)))|((with_reducible refine g_idx ?_);((first|refine ix ?_|refine ixi ?_|(refine ixg ?_;intro _ _)|(refine ixgi ?_;intro _ _));first|rintro _ _ _ _ _ ⟨rfl,rfl⟩ _|rintro _ _ _ _ _ ⟨_,rfl,_⟩ _|rintro _ _ _ _ _ ⟨_,_,_,_,rfl,rfl,_,_⟩ _|intro _ _ _ _ _ _ _))|(refine sx ?_;intro _ _)|((with_reducible refine g_awp ?_);simp only [g0,g1,g2]))
  all_goals (refine pi ?_; unfold szr; split <;> omega)
end Go.Proofs.YtekfdoknfcedpaaGreat
end
section
/- Task: copies, comparisons, sizes. Written by mkl.py. -/
set_option linter.unusedSimpArgs false
set_option linter.unusedVariables false
set_option maxHeartbeats 1000000
namespace Go.Proofs.YtekfdoknfcedpaaGreat
open Go Go.Ab
section
/- laws.toTaskS -/
def p_laws_toTaskS (x0 : AV) : Prog := Ln 0 x0 fun a=>.op (.mksl 12 128 z12_f83 a a) fun a=>.loop [.int .i64 0] (fun b=>Ln 0 x0 fun c=>Bn .lss (g b 0) c fun c=>.ite c (Ix 12 x0 (g b 0) fun c=>Ld 12 c fun c=>Cl n_laws_toTask [c] fun c=>Ix 12 a (g b 0) fun a=>.op (.st 12 a c) fun _=>Bn .add (g b 0) (.int .i64 1) fun a=>.leaf 0 [a]) (.leaf 2 [g b 0])) fun b c=>tsel b 1 (.leaf 1 c) (tsel b 2 (.fin [.val a]) .bad)
theorem c_laws_toTaskS (x0 : AV) : CC Tryz.prog n_laws_toTaskS [x0] (p_laws_toTaskS x0) := cc Tryz.func40 [0, 3, 4] (fun _ => [])
/- laws.eqTaskS -/
def p_laws_eqTaskS (x0 x1 : AV) : Prog := Ln 0 x0 fun a=>Ln 0 x1 fun b=>Bn .neq a b fun a=>.ite a (.fin [.val (.bool false)]) (.loop [.int .i64 0] (fun a=>Ln 0 x0 fun b=>Bn .lss (g a 0) b fun b=>.ite b (Ix 12 x0 (g a 0) fun b=>Ld 12 b fun b=>Ix 12 x1 (g a 0) fun c=>Ld 12 c fun c=>Cl n_laws_eqTask [b, c] fun b=>.op (.una .not b) fun b=>.ite b (.fin [.val (.bool false)]) (Bn .add (g a 0) (.int .i64 1) fun a=>.leaf 0 [a])) (.leaf 2 [g a 0])) fun a b=>tsel a 1 (.leaf 1 b) (tsel a 2 (.fin [.val (.bool true)]) .bad))
theorem c_laws_eqTaskS (x0 x1 : AV) : CC Tryz.prog n_laws_eqTaskS [x0, x1] (p_laws_eqTaskS x0 x1) := cc Tryz.func55 [0, 1, 5] (fun r => if r = 6 then [(0, []), (1, []), (2, []), (3, []), (4, []), (5, []), (6, []), (7, []), (8, []), (9, [])] else [])
/- laws.szTaskS -/
def p_laws_szTaskS (x0 x1 : AV) : Prog := Ln 0 x0 fun a=>Bn .sub x1 a fun a=>Bn .lss a (.int .i64 0) fun b=>.ite b (.fin [.val (.int .i64 (-1))]) (.loop [a, .int .i64 0] (fun a=>Ln 0 x0 fun b=>Bn .lss (g a 1) b fun b=>.ite b (Ix 12 x0 (g a 1) fun b=>Ld 12 b fun b=>Cl n_laws_szTask [b, g a 0] fun b=>Bn .lss b (.int .i64 0) fun c=>.ite c (.fin [.val (.int .i64 (-1))]) (Bn .add (g a 1) (.int .i64 1) fun a=>.leaf 0 [b, a])) (.leaf 2 [g a 0, g a 1])) fun a b=>tsel a 1 (.leaf 1 b) (tsel a 2 (.fin [.val (g b 0)]) .bad))
theorem c_laws_szTaskS (x0 x1 : AV) : CC Tryz.prog n_laws_szTaskS [x0, x1] (p_laws_szTaskS x0 x1) := cc Tryz.func27 [0, 1, 5] (fun _ => [])
end
theorem s_laws_toTaskS (xs : List Task) (hs : xs.length + szs xs ≤ 1048576) : CopyL Tryz.prog n_laws_toTaskS xs := copyL_of rfl rfl (by decide) hs (fun x hx => s_laws_toTask x hx) (fun g => c_laws_toTaskS _ g)
theorem s_laws_eqTaskS : EqS Task Tryz.prog n_laws_eqTaskS := fun xs v v' F F' h r r' => reader (c_laws_eqTaskS _ _) (by simp only [old]) (eqS_spec rfl s_laws_eqTask r r')
theorem s_laws_szTaskS : SzL Task Tryz.prog n_laws_szTaskS := fun xs ok v F b h r h0 h1 => reader (c_laws_szTaskS _ _) (by simp only [old]) (szS_spec rfl s_laws_szTask ok r h0 h1)
end Go.Proofs.YtekfdoknfcedpaaGreat
end
section
/- Deed: copies, comparisons, sizes. Written by mkl.py. -/
set_option linter.unusedSimpArgs false
set_option linter.unusedVariables false
set_option maxHeartbeats 1000000
namespace Go.Proofs.YtekfdoknfcedpaaGreat
open Go Go.Ab
section
/- laws.toDeed -/
def p_laws_toDeed (x0 : AV) : Prog := .op (.box x0) fun a=>.op (.alloc z20_1ff) fun b=>.op (.alloc z20_1ff) fun c=>Lg 0 a fun d=>Sg 0 c d fun _=>Lg 1 a fun d=>Sg 1 c d fun _=>.op (.fad 2 a) fun d=>Ld 6 d fun d=>Cl n_laws_toSpan [d] fun d=>.op (.fad 2 c) fun e=>.op (.st 6 e d) fun _=>Lg 8 a fun d=>Sg 8 c d fun _=>Lg 9 a fun d=>Sg 9 c d fun _=>Lg 10 a fun d=>Sg 10 c d fun _=>Lg 11 a fun d=>Sg 11 c d fun _=>Lg 12 a fun d=>Sg 12 c d fun _=>Lg 13 a fun d=>Sg 13 c d fun _=>Lg 14 a fun d=>Sg 14 c d fun _=>Lg 15 a fun d=>Sg 15 c d fun _=>Lg 16 a fun d=>Sg 16 c d fun _=>Lg 17 a fun d=>Sg 17 c d fun _=>Lg 18 a fun d=>Sg 18 c d fun _=>Lg 19 a fun a=>Sg 19 c a fun _=>Ld 20 c fun a=>.op (.st 20 b a) fun _=>.fin [.cn 20 b]
theorem c_laws_toDeed (x0 : AV) : CC Tryz.prog n_laws_toDeed [x0] (p_laws_toDeed x0) := cc Tryz.func118
/- laws.eqDeed -/
def p_laws_eqDeed (x0 x1 : AV) : Prog := .op (.box x0) fun a=>.op (.box x1) fun b=>Lg 0 a fun c=>Lg 0 b fun d=>Bn .neq c d fun c=>.ite c (.fin [.val (.bool false)]) (Lg 1 a fun c=>Lg 1 b fun d=>Bn .neq c d fun c=>.ite c (.fin [.val (.bool false)]) (.op (.fad 2 a) fun c=>Ld 6 c fun c=>.op (.fad 2 b) fun d=>Ld 6 d fun d=>Cl n_laws_eqSpan [c, d] fun c=>.op (.una .not c) fun c=>.ite c (.fin [.val (.bool false)]) (Lg 8 a fun c=>Lg 8 b fun d=>Bn .neq c d fun c=>.ite c (.fin [.val (.bool false)]) (Lg 9 a fun c=>Lg 9 b fun d=>Bn .neq c d fun c=>.ite c (.fin [.val (.bool false)]) (Lg 10 a fun c=>Lg 10 b fun d=>Bn .neq c d fun c=>.ite c (.fin [.val (.bool false)]) (Lg 11 a fun c=>Lg 11 b fun d=>.op (.bin 2 .neq c d) fun c=>.ite c (.fin [.val (.bool false)]) (Lg 12 a fun c=>Lg 12 b fun d=>.op (.bin 2 .neq c d) fun c=>.ite c (.fin [.val (.bool false)]) (Lg 13 a fun c=>Lg 13 b fun d=>Bn .neq c d fun c=>.ite c (.fin [.val (.bool false)]) (Lg 14 a fun c=>Lg 14 b fun d=>Bn .neq c d fun c=>.ite c (.fin [.val (.bool false)]) (Lg 15 a fun c=>Lg 15 b fun d=>Bn .neq c d fun c=>.ite c (.fin [.val (.bool false)]) (Lg 16 a fun c=>Lg 16 b fun d=>Bn .neq c d fun c=>.ite c (.fin [.val (.bool false)]) (Lg 17 a fun c=>Lg 17 b fun d=>Bn .neq c d fun c=>.ite c (.fin [.val (.bool false)]) (Lg 18 a fun c=>Lg 18 b fun d=>Bn .neq c d fun c=>.ite c (.fin [.val (.bool false)]) (Lg 19 a fun a=>Lg 19 b fun b=>Bn .neq a b fun a=>.ite a (.fin [.val (.bool false)]) (.fin [.val (.bool true)])))))))))))))))
theorem c_laws_eqDeed (x0 x1 : AV) : CC Tryz.prog n_laws_eqDeed [x0, x1] (p_laws_eqDeed x0 x1) := cc Tryz.func142
/- laws.szDeed -/
def p_laws_szDeed (x0 x1 : AV) : Prog := .op (.box x0) fun a=>.op (.fad 2 a) fun a=>Ld 6 a fun a=>Cl n_laws_szSpan [a, x1] fun a=>Bn .lss a (.int .i64 0) fun b=>.ite b (.fin [.val (.int .i64 (-1))]) (.fin [.val a])
theorem c_laws_szDeed (x0 x1 : AV) : CC Tryz.prog n_laws_szDeed [x0, x1] (p_laws_szDeed x0 x1) := cc Tryz.func90
end
theorem s_laws_toDeed (x : Deed) (hs : Sz.sz x ≤ 1048576) : CopyX Deed Tryz.prog n_laws_toDeed x := by
  rintro cs F h ⟨v0, rfl, r0⟩
  have hs : Sz.sz x.s ≤ 1048576 := hs
  have e_s : Sz.sz x.s = (x.s.attrs.length + szs x.s.attrs) := rfl
  refine c_laws_toDeed _ ?_
  unfold p_laws_toDeed
  (repeat' first|refine vs ?_|(refine br ?_ ?_<;>intro _<;>try(exfalso;first|omega|contradiction))|((with_reducible refine g_callf n_laws_toSpan ?_);(refine aw_call (s_laws_toSpan _ om_auto _ _ _ ⟨_, rfl, slr_auto⟩) ?_; rintro _ _ ⟨e_, _, _, rfl, ⟨_, rfl, _⟩, _⟩; have n_ := e_.1; (try simp only [push_n, upd_n] at n_)))|((with_reducible refine g_idx ?_);((first|refine ix ?_|refine ixi ?_|(refine ixg ?_;intro _ _)|(refine ixgi ?_;intro _ _));first|rintro _ _ _ _ _ ⟨rfl,rfl⟩ _|rintro _ _ _ _ _ ⟨_,rfl,_⟩ _|rintro _ _ _ _ _ ⟨_,_,_,_,rfl,rfl,_,_⟩ _|intro _ _ _ _ _ _ _))|(refine sx ?_;intro _ _)|((with_reducible refine g_awp ?_);simp only [g0,g1,g2]))
  exact ⟨rfl, _, rfl, ext_auto, _, _, rfl, ⟨_, rfl, slr_auto⟩, ol_auto⟩
theorem s_laws_eqDeed : EqC Deed Tryz.prog n_laws_eqDeed := by
  rintro x cs cs' F F' h ⟨v0, rfl, r0⟩ ⟨u0, rfl, q0⟩
  refine reader (c_laws_eqDeed _ _) (by simp only [old]) ?_
  unfold p_laws_eqDeed
  (repeat' first|refine vs ?_|(refine br ?_ ?_<;>intro _<;>try(exfalso;first|omega|contradiction))|((with_reducible refine g_callf n_laws_eqSpan ?_);refine aw_rcall (s_laws_eqSpan _ _ _ _ _ _ ⟨_, rfl, slr_auto⟩ ⟨_, rfl, slr_auto⟩) ?_)|((with_reducible refine g_idx ?_);((first|refine ix ?_|refine ixi ?_|(refine ixg ?_;intro _ _)|(refine ixgi ?_;intro _ _));first|rintro _ _ _ _ _ ⟨rfl,rfl⟩ _|rintro _ _ _ _ _ ⟨_,rfl,_⟩ _|rintro _ _ _ _ _ ⟨_,_,_,_,rfl,rfl,_,_⟩ _|intro _ _ _ _ _ _ _))|(refine sx ?_;intro _ _)|((with_reducible refine g_awp ?_);simp only [g0,g1,g2]))
  exact pb rfl
theorem s_laws_szDeed : SzC Deed Tryz.prog n_laws_szDeed := by
  rintro x ok cs F b h ⟨v0, rfl, r0⟩ h0 h1
  obtain ⟨ok_op, ok_task, ok_s, ok_trace, ok_stamp, ok_code, ok_took, ok_n, ok_forgot, ok_now, ok_inv, ok_lin, ok_res⟩ := ok
  have hS : Sz.sz x = Sz.sz x.s := rfl
  have e_s : Sz.sz x.s = (x.s.attrs.length + szs x.s.attrs) := rfl
  refine reader (c_laws_szDeed _ _) (by simp only [old]) ?_
  unfold p_laws_szDeed
  (repeat' first|refine vs ?_|(refine br ?_ ?_<;>intro _<;>try(exfalso;first|omega|contradiction))|((with_reducible refine g_callf n_laws_szSpan ?_);(refine aw_sz (s_laws_szSpan _ (by assumption) _ _ _ _ ⟨_, rfl, slr_auto⟩ om_auto om_auto) (fun _ => ?_) (fun _ => ?_)))|((with_reducible refine g_idx ?_);((first|refine ix ?_|refine ixi ?_|(refine ixg ?_;intro _ _)|(refine ixgi ?_;intro _ _));first|rintro _ _ _ _ _ ⟨rfl,rfl⟩ _|rintro _ _ _ _ _ ⟨_,rfl,_⟩ _|rintro _ _ _ _ _ ⟨_,_,_,_,rfl,rfl,_,_⟩ _|intro _ _ _ _ _ _ _))|(refine sx ?_;intro _ _)|((with_reducible refine g_awp ?_);simp only [g0,g1,g2]))
  all_goals (refine pi ?_; unfold szr; split <;> omega)
end Go.Proofs.YtekfdoknfcedpaaGreat
end
section
/- Deed: copies, comparisons, sizes. Written by mkl.py. -/
set_option linter.unusedSimpArgs false
set_option linter.unusedVariables false
set_option maxHeartbeats 1000000
namespace Go.Proofs.YtekfdoknfcedpaaGreat
open Go Go.Ab
section
/- laws.toDeedS -/
def p_laws_toDeedS (x0 : AV) : Prog := Ln 0 x0 fun a=>.op (.mksl 20 168 z20_1ff a a) fun a=>.loop [.int .i64 0] (fun b=>Ln 0 x0 fun c=>Bn .lss (g b 0) c fun c=>.ite c (Ix 20 x0 (g b 0) fun c=>Ld 20 c fun c=>Cl n_laws_toDeed [c] fun c=>Ix 20 a (g b 0) fun a=>.op (.st 20 a c) fun _=>Bn .add (g b 0) (.int .i64 1) fun a=>.leaf 0 [a]) (.leaf 2 [g b 0])) fun b c=>tsel b 1 (.leaf 1 c) (tsel b 2 (.fin [.val a]) .bad)
theorem c_laws_toDeedS (x0 : AV) : CC Tryz.prog n_laws_toDeedS [x0] (p_laws_toDeedS x0) := cc Tryz.func41 [0, 3, 4] (fun _ => [])
/- laws.eqDeedS -/
def p_laws_eqDeedS (x0 x1 : AV) : Prog := Ln 0 x0 fun a=>Ln 0 x1 fun b=>Bn .neq a b fun a=>.ite a (.fin [.val (.bool false)]) (.loop [.int .i64 0] (fun a=>Ln 0 x0 fun b=>Bn .lss (g a 0) b fun b=>.ite b (Ix 20 x0 (g a 0) fun b=>Ld 20 b fun b=>Ix 20 x1 (g a 0) fun c=>Ld 20 c fun c=>Cl n_laws_eqDeed [b, c] fun b=>.op (.una .not b) fun b=>.ite b (.fin [.val (.bool false)]) (Bn .add (g a 0) (.int .i64 1) fun a=>.leaf 0 [a])) (.leaf 2 [g a 0])) fun a b=>tsel a 1 (.leaf 1 b) (tsel a 2 (.fin [.val (.bool true)]) .bad))
theorem c_laws_eqDeedS (x0 x1 : AV) : CC Tryz.prog n_laws_eqDeedS [x0, x1] (p_laws_eqDeedS x0 x1) := cc Tryz.func56 [0, 1, 5] (fun r => if r = 6 then [(0, []), (1, []), (2, []), (3, []), (4, []), (5, []), (6, []), (7, []), (8, []), (9, [])] else [])
/- laws.szDeedS -/
def p_laws_szDeedS (x0 x1 : AV) : Prog := Ln 0 x0 fun a=>Bn .sub x1 a fun a=>Bn .lss a (.int .i64 0) fun b=>.ite b (.fin [.val (.int .i64 (-1))]) (.loop [a, .int .i64 0] (fun a=>Ln 0 x0 fun b=>Bn .lss (g a 1) b fun b=>.ite b (Ix 20 x0 (g a 1) fun b=>Ld 20 b fun b=>Cl n_laws_szDeed [b, g a 0] fun b=>Bn .lss b (.int .i64 0) fun c=>.ite c (.fin [.val (.int .i64 (-1))]) (Bn .add (g a 1) (.int .i64 1) fun a=>.leaf 0 [b, a])) (.leaf 2 [g a 0, g a 1])) fun a b=>tsel a 1 (.leaf 1 b) (tsel a 2 (.fin [.val (g b 0)]) .bad))
theorem c_laws_szDeedS (x0 x1 : AV) : CC Tryz.prog n_laws_szDeedS [x0, x1] (p_laws_szDeedS x0 x1) := cc Tryz.func28 [0, 1, 5] (fun _ => [])
end
theorem s_laws_toDeedS (xs : List Deed) (hs : xs.length + szs xs ≤ 1048576) : CopyL Tryz.prog n_laws_toDeedS xs := copyL_of rfl rfl (by decide) hs (fun x hx => s_laws_toDeed x hx) (fun g => c_laws_toDeedS _ g)
theorem s_laws_eqDeedS : EqS Deed Tryz.prog n_laws_eqDeedS := fun xs v v' F F' h r r' => reader (c_laws_eqDeedS _ _) (by simp only [old]) (eqS_spec rfl s_laws_eqDeed r r')
theorem s_laws_szDeedS : SzL Deed Tryz.prog n_laws_szDeedS := fun xs ok v F b h r h0 h1 => reader (c_laws_szDeedS _ _) (by simp only [old]) (szS_spec rfl s_laws_szDeed ok r h0 h1)
end Go.Proofs.YtekfdoknfcedpaaGreat
end
section
/- Timer: copies, comparisons, sizes. Written by mkl.py. -/
set_option linter.unusedSimpArgs false
set_option linter.unusedVariables false
set_option maxHeartbeats 1000000
namespace Go.Proofs.YtekfdoknfcedpaaGreat
open Go Go.Ab
section
/- laws.toTimerSS -/
def p_laws_toTimerSS (x0 : AV) : Prog := Ln 0 x0 fun a=>.op (.mksl 1 24 [.nils] a a) fun a=>.loop [.int .i64 0] (fun b=>Ln 0 x0 fun c=>Bn .lss (g b 0) c fun c=>.ite c (Ix 1 x0 (g b 0) fun c=>.op (.ld1 c) fun c=>Cl n_laws_toTimerS [c] fun c=>Ix 1 a (g b 0) fun a=>.op (.st 1 a c) fun _=>Bn .add (g b 0) (.int .i64 1) fun a=>.leaf 0 [a]) (.leaf 2 [g b 0])) fun b c=>tsel b 1 (.leaf 1 c) (tsel b 2 (.fin [.val a]) .bad)
theorem c_laws_toTimerSS (x0 : AV) : CC Tryz.prog n_laws_toTimerSS [x0] (p_laws_toTimerSS x0) := cc Tryz.func114 [0, 3, 4] (fun _ => [])
/- laws.eqTimerSS -/
def p_laws_eqTimerSS (x0 x1 : AV) : Prog := Ln 0 x0 fun a=>Ln 0 x1 fun b=>Bn .neq a b fun a=>.ite a (.fin [.val (.bool false)]) (.loop [.int .i64 0] (fun a=>Ln 0 x0 fun b=>Bn .lss (g a 0) b fun b=>.ite b (Ix 1 x0 (g a 0) fun b=>.op (.ld1 b) fun b=>Ix 1 x1 (g a 0) fun c=>.op (.ld1 c) fun c=>Cl n_laws_eqTimerS [b, c] fun b=>.op (.una .not b) fun b=>.ite b (.fin [.val (.bool false)]) (Bn .add (g a 0) (.int .i64 1) fun a=>.leaf 0 [a])) (.leaf 2 [g a 0])) fun a b=>tsel a 1 (.leaf 1 b) (tsel a 2 (.fin [.val (.bool true)]) .bad))
theorem c_laws_eqTimerSS (x0 x1 : AV) : CC Tryz.prog n_laws_eqTimerSS [x0, x1] (p_laws_eqTimerSS x0 x1) := cc Tryz.func138 [0, 1, 5] (fun r => if r = 6 then [(0, []), (1, []), (2, []), (3, []), (4, []), (5, []), (6, []), (7, []), (8, []), (9, [])] else [])
/- laws.szTimerSS -/
def p_laws_szTimerSS (x0 x1 : AV) : Prog := Ln 0 x0 fun a=>Bn .sub x1 a fun a=>Bn .lss a (.int .i64 0) fun b=>.ite b (.fin [.val (.int .i64 (-1))]) (.loop [a, .int .i64 0] (fun a=>Ln 0 x0 fun b=>Bn .lss (g a 1) b fun b=>.ite b (Ix 1 x0 (g a 1) fun b=>.op (.ld1 b) fun b=>Cl n_laws_szTimerS [b, g a 0] fun b=>Bn .lss b (.int .i64 0) fun c=>.ite c (.fin [.val (.int .i64 (-1))]) (Bn .add (g a 1) (.int .i64 1) fun a=>.leaf 0 [b, a])) (.leaf 2 [g a 0, g a 1])) fun a b=>tsel a 1 (.leaf 1 b) (tsel a 2 (.fin [.val (g b 0)]) .bad))
theorem c_laws_szTimerSS (x0 x1 : AV) : CC Tryz.prog n_laws_szTimerSS [x0, x1] (p_laws_szTimerSS x0 x1) := cc Tryz.func87 [0, 1, 5] (fun _ => [])
/- laws.toTimer -/
def p_laws_toTimer (x0 : AV) : Prog := .op (.box x0) fun a=>.op (.alloc [.int .i64 0, .int .i64 0, .int .i64 0]) fun b=>.op (.alloc [.int .i64 0, .int .i64 0, .int .i64 0]) fun c=>Lg 0 a fun d=>Sg 0 c d fun _=>Lg 1 a fun d=>Sg 1 c d fun _=>Lg 2 a fun a=>Sg 2 c a fun _=>Ld 3 c fun a=>.op (.st 3 b a) fun _=>.fin [.cn 3 b]
theorem c_laws_toTimer (x0 : AV) : CC Tryz.prog n_laws_toTimer [x0] (p_laws_toTimer x0) := cc Tryz.func115
/- laws.eqTimer -/
def p_laws_eqTimer (x0 x1 : AV) : Prog := .op (.box x0) fun a=>.op (.box x1) fun b=>Lg 0 a fun c=>Lg 0 b fun d=>Bn .neq c d fun c=>.ite c (.fin [.val (.bool false)]) (Lg 1 a fun c=>Lg 1 b fun d=>Bn .neq c d fun c=>.ite c (.fin [.val (.bool false)]) (Lg 2 a fun a=>Lg 2 b fun b=>Bn .neq a b fun a=>.ite a (.fin [.val (.bool false)]) (.fin [.val (.bool true)])))
theorem c_laws_eqTimer (x0 x1 : AV) : CC Tryz.prog n_laws_eqTimer [x0, x1] (p_laws_eqTimer x0 x1) := cc Tryz.func139
/- laws.toTimerS -/
def p_laws_toTimerS (x0 : AV) : Prog := Ln 0 x0 fun a=>.op (.mksl 3 24 [.int .i64 0, .int .i64 0, .int .i64 0] a a) fun a=>.loop [.int .i64 0] (fun b=>Ln 0 x0 fun c=>Bn .lss (g b 0) c fun c=>.ite c (Ix 3 x0 (g b 0) fun c=>Ld 3 c fun c=>Cl n_laws_toTimer [c] fun c=>Ix 3 a (g b 0) fun a=>.op (.st 3 a c) fun _=>Bn .add (g b 0) (.int .i64 1) fun a=>.leaf 0 [a]) (.leaf 2 [g b 0])) fun b c=>tsel b 1 (.leaf 1 c) (tsel b 2 (.fin [.val a]) .bad)
theorem c_laws_toTimerS (x0 : AV) : CC Tryz.prog n_laws_toTimerS [x0] (p_laws_toTimerS x0) := cc Tryz.func38 [0, 3, 4] (fun _ => [])
/- laws.eqTimerS -/
def p_laws_eqTimerS (x0 x1 : AV) : Prog := Ln 0 x0 fun a=>Ln 0 x1 fun b=>Bn .neq a b fun a=>.ite a (.fin [.val (.bool false)]) (.loop [.int .i64 0] (fun a=>Ln 0 x0 fun b=>Bn .lss (g a 0) b fun b=>.ite b (Ix 3 x0 (g a 0) fun b=>Ld 3 b fun b=>Ix 3 x1 (g a 0) fun c=>Ld 3 c fun c=>Cl n_laws_eqTimer [b, c] fun b=>.op (.una .not b) fun b=>.ite b (.fin [.val (.bool false)]) (Bn .add (g a 0) (.int .i64 1) fun a=>.leaf 0 [a])) (.leaf 2 [g a 0])) fun a b=>tsel a 1 (.leaf 1 b) (tsel a 2 (.fin [.val (.bool true)]) .bad))
theorem c_laws_eqTimerS (x0 x1 : AV) : CC Tryz.prog n_laws_eqTimerS [x0, x1] (p_laws_eqTimerS x0 x1) := cc Tryz.func53 [0, 1, 5] (fun r => if r = 6 then [(0, []), (1, []), (2, []), (3, []), (4, []), (5, []), (6, []), (7, []), (8, []), (9, [])] else [])
/- laws.szTimerS -/
def p_laws_szTimerS (x0 x1 : AV) : Prog := Ln 0 x0 fun a=>Bn .sub x1 a fun a=>Bn .lss a (.int .i64 0) fun b=>.ite b (.fin [.val (.int .i64 (-1))]) (.fin [.val a])
theorem c_laws_szTimerS (x0 x1 : AV) : CC Tryz.prog n_laws_szTimerS [x0, x1] (p_laws_szTimerS x0 x1) := cc Tryz.func25
end
theorem s_laws_toTimer (x : Ab.Timer) (hs : Sz.sz x ≤ 1048576) : CopyX Ab.Timer Tryz.prog n_laws_toTimer x := by
  rintro cs F h ⟨rfl, rfl⟩
  have hs : 0 ≤ 1048576 := hs
  refine c_laws_toTimer _ ?_
  unfold p_laws_toTimer
  (repeat' first|refine vs ?_|(refine br ?_ ?_<;>intro _<;>try(exfalso;first|omega|contradiction))|((with_reducible refine g_idx ?_);((first|refine ix ?_|refine ixi ?_|(refine ixg ?_;intro _ _)|(refine ixgi ?_;intro _ _));first|rintro _ _ _ _ _ ⟨rfl,rfl⟩ _|rintro _ _ _ _ _ ⟨_,rfl,_⟩ _|rintro _ _ _ _ _ ⟨_,_,_,_,rfl,rfl,_,_⟩ _|intro _ _ _ _ _ _ _))|(refine sx ?_;intro _ _)|((with_reducible refine g_awp ?_);simp only [g0,g1,g2]))
  exact ⟨rfl, _, rfl, ext_auto, _, _, rfl, ⟨rfl, rfl⟩, Own.nil⟩
theorem s_laws_eqTimer : EqC Ab.Timer Tryz.prog n_laws_eqTimer := by
  rintro x cs cs' F F' h ⟨rfl, rfl⟩ ⟨rfl, rfl⟩
  refine reader (c_laws_eqTimer _ _) (by simp only [old]) ?_
  unfold p_laws_eqTimer
  (repeat' first|refine vs ?_|(refine br ?_ ?_<;>intro _<;>try(exfalso;first|omega|contradiction))|((with_reducible refine g_idx ?_);((first|refine ix ?_|refine ixi ?_|(refine ixg ?_;intro _ _)|(refine ixgi ?_;intro _ _));first|rintro _ _ _ _ _ ⟨rfl,rfl⟩ _|rintro _ _ _ _ _ ⟨_,rfl,_⟩ _|rintro _ _ _ _ _ ⟨_,_,_,_,rfl,rfl,_,_⟩ _|intro _ _ _ _ _ _ _))|(refine sx ?_;intro _ _)|((with_reducible refine g_awp ?_);simp only [g0,g1,g2]))
  exact pb rfl
theorem s_laws_toTimerS (xs : List Ab.Timer) (hs : xs.length + szs xs ≤ 1048576) : CopyL Tryz.prog n_laws_toTimerS xs := copyL_of rfl rfl (by decide) hs (fun x hx => s_laws_toTimer x hx) (fun g => c_laws_toTimerS _ g)
theorem s_laws_eqTimerS : EqS Ab.Timer Tryz.prog n_laws_eqTimerS := fun xs v v' F F' h r r' => reader (c_laws_eqTimerS _ _) (by simp only [old]) (eqS_spec rfl s_laws_eqTimer r r')
theorem s_laws_szTimerS : SzL Ab.Timer Tryz.prog n_laws_szTimerS := fun xs _ v F b h r h0 h1 => reader (c_laws_szTimerS _ _) (by simp only [old]) (by have := szF_spec (P := Tryz.prog) r h0 h1; rw [szs_zero (fun _ => rfl)]; exact this)
theorem s_laws_toTimerSS (xs : List (List Ab.Timer)) (hs : xs.length + szs xs ≤ 1048576) : CopyL Tryz.prog n_laws_toTimerSS xs := fun v F h r => c_laws_toTimerSS _ (toSS_spec (w := 1) rfl rfl rfl (fun x hx => s_laws_toTimerS x (by have := szs_mem hx; have h2 : Sz.sz x = x.length + szs x := rfl; omega)) r (by omega))
theorem s_laws_eqTimerSS : EqS (List Ab.Timer) Tryz.prog n_laws_eqTimerSS := fun xs v v' F F' h r r' => reader (c_laws_eqTimerSS _ _) (by simp only [old]) (eqSS_spec s_laws_eqTimerS r r')
theorem s_laws_szTimerSS : SzL (List Ab.Timer) Tryz.prog n_laws_szTimerSS := fun xs ok v F b h r h0 h1 => reader (c_laws_szTimerSS _ _) (by simp only [old]) (szSS_spec s_laws_szTimerS ok r h0 h1)
end Go.Proofs.YtekfdoknfcedpaaGreat
end
section
/- Wheel: copies, comparisons, sizes. Written by mkl.py. -/
set_option linter.unusedSimpArgs false
set_option linter.unusedVariables false
set_option maxHeartbeats 1000000
namespace Go.Proofs.YtekfdoknfcedpaaGreat
open Go Go.Ab
section
/- laws.toWheel -/
def p_laws_toWheel (x0 : AV) : Prog := .op (.box x0) fun a=>.op (.alloc [.int .i64 0, .nils, .nils, .nils]) fun b=>.op (.alloc [.int .i64 0, .nils, .nils, .nils]) fun c=>Lg 0 a fun d=>Sg 0 c d fun _=>Lg 1 a fun d=>Cl n_laws_toTimerSS [d] fun d=>Sg 1 c d fun _=>Lg 2 a fun d=>Cl n_laws_toTimerSS [d] fun d=>Sg 2 c d fun _=>Lg 3 a fun a=>Cl n_laws_toTimerS [a] fun a=>Sg 3 c a fun _=>Ld 4 c fun a=>.op (.st 4 b a) fun _=>.fin [.cn 4 b]
theorem c_laws_toWheel (x0 : AV) : CC Tryz.prog n_laws_toWheel [x0] (p_laws_toWheel x0) := cc Tryz.func37
/- laws.eqWheel -/
def p_laws_eqWheel (x0 x1 : AV) : Prog := .op (.box x0) fun a=>.op (.box x1) fun b=>Lg 0 a fun c=>Lg 0 b fun d=>Bn .neq c d fun c=>.ite c (.fin [.val (.bool false)]) (Lg 1 a fun c=>Lg 1 b fun d=>Cl n_laws_eqTimerSS [c, d] fun c=>.op (.una .not c) fun c=>.ite c (.fin [.val (.bool false)]) (Lg 2 a fun c=>Lg 2 b fun d=>Cl n_laws_eqTimerSS [c, d] fun c=>.op (.una .not c) fun c=>.ite c (.fin [.val (.bool false)]) (Lg 3 a fun a=>Lg 3 b fun b=>Cl n_laws_eqTimerS [a, b] fun a=>.op (.una .not a) fun a=>.ite a (.fin [.val (.bool false)]) (.fin [.val (.bool true)]))))
theorem c_laws_eqWheel (x0 x1 : AV) : CC Tryz.prog n_laws_eqWheel [x0, x1] (p_laws_eqWheel x0 x1) := cc Tryz.func52
/- laws.szWheel -/
def p_laws_szWheel (x0 x1 : AV) : Prog := .op (.box x0) fun a=>Lg 1 a fun b=>Cl n_laws_szTimerSS [b, x1] fun b=>Bn .lss b (.int .i64 0) fun c=>.ite c (.fin [.val (.int .i64 (-1))]) (Lg 2 a fun c=>Cl n_laws_szTimerSS [c, b] fun b=>Bn .lss b (.int .i64 0) fun c=>.ite c (.fin [.val (.int .i64 (-1))]) (Lg 3 a fun a=>Cl n_laws_szTimerS [a, b] fun a=>Bn .lss a (.int .i64 0) fun b=>.ite b (.fin [.val (.int .i64 (-1))]) (.fin [.val a])))
theorem c_laws_szWheel (x0 x1 : AV) : CC Tryz.prog n_laws_szWheel [x0, x1] (p_laws_szWheel x0 x1) := cc Tryz.func24
end
theorem s_laws_toWheel (x : Wheel) (hs : Sz.sz x ≤ 1048576) : CopyX Wheel Tryz.prog n_laws_toWheel x := by
  rintro cs F h ⟨v0, v1, v2, F0, F1, F2, rfl, rfl, r0, r1, r2⟩
  have hs : (x.near.length + szs x.near) + (x.far.length + szs x.far) + (x.rest.length + szs x.rest) ≤ 1048576 := hs
  refine c_laws_toWheel _ ?_
  unfold p_laws_toWheel
  (repeat' first|refine vs ?_|(refine br ?_ ?_<;>intro _<;>try(exfalso;first|omega|contradiction))|((with_reducible refine g_callf n_laws_toTimerSS ?_);(refine aw_call (copy_r s_laws_toTimerSS slr_auto om_auto) ?_; rintro _ _ ⟨e_, _, _, _⟩; have n_ := e_.1; (try simp only [push_n, upd_n] at n_)))|((with_reducible refine g_callf n_laws_toTimerS ?_);(refine aw_call (copy_r s_laws_toTimerS slr_auto om_auto) ?_; rintro _ _ ⟨e_, _, _, _⟩; have n_ := e_.1; (try simp only [push_n, upd_n] at n_)))|((with_reducible refine g_idx ?_);((first|refine ix ?_|refine ixi ?_|(refine ixg ?_;intro _ _)|(refine ixgi ?_;intro _ _));first|rintro _ _ _ _ _ ⟨rfl,rfl⟩ _|rintro _ _ _ _ _ ⟨_,rfl,_⟩ _|rintro _ _ _ _ _ ⟨_,_,_,_,rfl,rfl,_,_⟩ _|intro _ _ _ _ _ _ _))|(refine sx ?_;intro _ _)|((with_reducible refine g_awp ?_);simp only [g0,g1,g2]))
  exact ⟨rfl, _, rfl, ext_auto, _, _, rfl, ⟨_, _, _, _, _, _, rfl, rfl, slr_auto, slr_auto, slr_auto⟩, (ol_app2 oll_auto (ol_app2 oll_auto oll_auto disn_auto) disn_auto).1⟩
theorem s_laws_eqWheel : EqC Wheel Tryz.prog n_laws_eqWheel := by
  rintro x cs cs' F F' h ⟨v0, v1, v2, F0, F1, F2, rfl, rfl, r0, r1, r2⟩ ⟨u0, u1, u2, G0, G1, G2, rfl, rfl, q0, q1, q2⟩
  refine reader (c_laws_eqWheel _ _) (by simp only [old]) ?_
  unfold p_laws_eqWheel
  (repeat' first|refine vs ?_|(refine br ?_ ?_<;>intro _<;>try(exfalso;first|omega|contradiction))|((with_reducible refine g_callf n_laws_eqTimerSS ?_);refine aw_rcall (s_laws_eqTimerSS _ _ _ _ _ _ slr_auto slr_auto) ?_)|((with_reducible refine g_callf n_laws_eqTimerS ?_);refine aw_rcall (s_laws_eqTimerS _ _ _ _ _ _ slr_auto slr_auto) ?_)|((with_reducible refine g_idx ?_);((first|refine ix ?_|refine ixi ?_|(refine ixg ?_;intro _ _)|(refine ixgi ?_;intro _ _));first|rintro _ _ _ _ _ ⟨rfl,rfl⟩ _|rintro _ _ _ _ _ ⟨_,rfl,_⟩ _|rintro _ _ _ _ _ ⟨_,_,_,_,rfl,rfl,_,_⟩ _|intro _ _ _ _ _ _ _))|(refine sx ?_;intro _ _)|((with_reducible refine g_awp ?_);simp only [g0,g1,g2]))
  exact pb rfl
theorem s_laws_szWheel : SzC Wheel Tryz.prog n_laws_szWheel := by
  rintro x ok cs F b h ⟨v0, v1, v2, F0, F1, F2, rfl, rfl, r0, r1, r2⟩ h0 h1
  obtain ⟨ok_now, ok_near, ok_far, ok_rest⟩ := ok
  have hS : Sz.sz x = (x.near.length + szs x.near) + (x.far.length + szs x.far) + (x.rest.length + szs x.rest) := rfl
  refine reader (c_laws_szWheel _ _) (by simp only [old]) ?_
  unfold p_laws_szWheel
  (repeat' first|refine vs ?_|(refine br ?_ ?_<;>intro _<;>try(exfalso;first|omega|contradiction))|((with_reducible refine g_callf n_laws_szTimerSS ?_);(refine aw_sz (szl s_laws_szTimerSS slr_auto (by assumption) om_auto om_auto) (fun _ => ?_) (fun _ => ?_)))|((with_reducible refine g_callf n_laws_szTimerS ?_);(refine aw_sz (szl s_laws_szTimerS slr_auto (by assumption) om_auto om_auto) (fun _ => ?_) (fun _ => ?_)))|((with_reducible refine g_idx ?_);((first|refine ix ?_|refine ixi ?_|(refine ixg ?_;intro _ _)|(refine ixgi ?_;intro _ _));first|rintro _ _ _ _ _ ⟨rfl,rfl⟩ _|rintro _ _ _ _ _ ⟨_,rfl,_⟩ _|rintro _ _ _ _ _ ⟨_,_,_,_,rfl,rfl,_,_⟩ _|intro _ _ _ _ _ _ _))|(refine sx ?_;intro _ _)|((with_reducible refine g_awp ?_);simp only [g0,g1,g2]))
  all_goals (refine pi ?_; unfold szr; split <;> omega)
end Go.Proofs.YtekfdoknfcedpaaGreat
end
section
/- Verdict: copies, comparisons, sizes. Written by mkl.py. -/
set_option linter.unusedSimpArgs false
set_option linter.unusedVariables false
set_option maxHeartbeats 1000000
namespace Go.Proofs.YtekfdoknfcedpaaGreat
open Go Go.Ab
section
/- laws.toVerdict -/
def p_laws_toVerdict (x0 : AV) : Prog := .op (.box x0) fun a=>.op (.alloc [.int .i64 0, .int .i64 0, .bool false]) fun b=>.op (.alloc [.int .i64 0, .int .i64 0, .bool false]) fun c=>Lg 0 a fun d=>Sg 0 c d fun _=>Lg 1 a fun d=>Sg 1 c d fun _=>Lg 2 a fun a=>Sg 2 c a fun _=>Ld 3 c fun a=>.op (.st 3 b a) fun _=>.fin [.cn 3 b]
theorem c_laws_toVerdict (x0 : AV) : CC Tryz.prog n_laws_toVerdict [x0] (p_laws_toVerdict x0) := cc Tryz.func113
/- laws.eqVerdict -/
def p_laws_eqVerdict (x0 x1 : AV) : Prog := .op (.box x0) fun a=>.op (.box x1) fun b=>Lg 0 a fun c=>Lg 0 b fun d=>Bn .neq c d fun c=>.ite c (.fin [.val (.bool false)]) (Lg 1 a fun c=>Lg 1 b fun d=>Bn .neq c d fun c=>.ite c (.fin [.val (.bool false)]) (Lg 2 a fun a=>Lg 2 b fun b=>.op (.bin 2 .neq a b) fun a=>.ite a (.fin [.val (.bool false)]) (.fin [.val (.bool true)])))
theorem c_laws_eqVerdict (x0 x1 : AV) : CC Tryz.prog n_laws_eqVerdict [x0, x1] (p_laws_eqVerdict x0 x1) := cc Tryz.func137
/- laws.toVerdictS -/
def p_laws_toVerdictS (x0 : AV) : Prog := Ln 0 x0 fun a=>.op (.mksl 3 24 [.int .i64 0, .int .i64 0, .bool false] a a) fun a=>.loop [.int .i64 0] (fun b=>Ln 0 x0 fun c=>Bn .lss (g b 0) c fun c=>.ite c (Ix 3 x0 (g b 0) fun c=>Ld 3 c fun c=>Cl n_laws_toVerdict [c] fun c=>Ix 3 a (g b 0) fun a=>.op (.st 3 a c) fun _=>Bn .add (g b 0) (.int .i64 1) fun a=>.leaf 0 [a]) (.leaf 2 [g b 0])) fun b c=>tsel b 1 (.leaf 1 c) (tsel b 2 (.fin [.val a]) .bad)
theorem c_laws_toVerdictS (x0 : AV) : CC Tryz.prog n_laws_toVerdictS [x0] (p_laws_toVerdictS x0) := cc Tryz.func36 [0, 3, 4] (fun _ => [])
/- laws.eqVerdictS -/
def p_laws_eqVerdictS (x0 x1 : AV) : Prog := Ln 0 x0 fun a=>Ln 0 x1 fun b=>Bn .neq a b fun a=>.ite a (.fin [.val (.bool false)]) (.loop [.int .i64 0] (fun a=>Ln 0 x0 fun b=>Bn .lss (g a 0) b fun b=>.ite b (Ix 3 x0 (g a 0) fun b=>Ld 3 b fun b=>Ix 3 x1 (g a 0) fun c=>Ld 3 c fun c=>Cl n_laws_eqVerdict [b, c] fun b=>.op (.una .not b) fun b=>.ite b (.fin [.val (.bool false)]) (Bn .add (g a 0) (.int .i64 1) fun a=>.leaf 0 [a])) (.leaf 2 [g a 0])) fun a b=>tsel a 1 (.leaf 1 b) (tsel a 2 (.fin [.val (.bool true)]) .bad))
theorem c_laws_eqVerdictS (x0 x1 : AV) : CC Tryz.prog n_laws_eqVerdictS [x0, x1] (p_laws_eqVerdictS x0 x1) := cc Tryz.func51 [0, 1, 5] (fun r => if r = 6 then [(0, []), (1, []), (2, []), (3, []), (4, []), (5, []), (6, []), (7, []), (8, []), (9, [])] else [])
/- laws.szVerdictS -/
def p_laws_szVerdictS (x0 x1 : AV) : Prog := Ln 0 x0 fun a=>Bn .sub x1 a fun a=>Bn .lss a (.int .i64 0) fun b=>.ite b (.fin [.val (.int .i64 (-1))]) (.fin [.val a])
theorem c_laws_szVerdictS (x0 x1 : AV) : CC Tryz.prog n_laws_szVerdictS [x0, x1] (p_laws_szVerdictS x0 x1) := cc Tryz.func23
end
theorem s_laws_toVerdict (x : Verdict) (hs : Sz.sz x ≤ 1048576) : CopyX Verdict Tryz.prog n_laws_toVerdict x := by
  rintro cs F h ⟨rfl, rfl⟩
  have hs : 0 ≤ 1048576 := hs
  refine c_laws_toVerdict _ ?_
  unfold p_laws_toVerdict
  (repeat' first|refine vs ?_|(refine br ?_ ?_<;>intro _<;>try(exfalso;first|omega|contradiction))|((with_reducible refine g_idx ?_);((first|refine ix ?_|refine ixi ?_|(refine ixg ?_;intro _ _)|(refine ixgi ?_;intro _ _));first|rintro _ _ _ _ _ ⟨rfl,rfl⟩ _|rintro _ _ _ _ _ ⟨_,rfl,_⟩ _|rintro _ _ _ _ _ ⟨_,_,_,_,rfl,rfl,_,_⟩ _|intro _ _ _ _ _ _ _))|(refine sx ?_;intro _ _)|((with_reducible refine g_awp ?_);simp only [g0,g1,g2]))
  exact ⟨rfl, _, rfl, ext_auto, _, _, rfl, ⟨rfl, rfl⟩, Own.nil⟩
theorem s_laws_eqVerdict : EqC Verdict Tryz.prog n_laws_eqVerdict := by
  rintro x cs cs' F F' h ⟨rfl, rfl⟩ ⟨rfl, rfl⟩
  refine reader (c_laws_eqVerdict _ _) (by simp only [old]) ?_
  unfold p_laws_eqVerdict
  (repeat' first|refine vs ?_|(refine br ?_ ?_<;>intro _<;>try(exfalso;first|omega|contradiction))|((with_reducible refine g_idx ?_);((first|refine ix ?_|refine ixi ?_|(refine ixg ?_;intro _ _)|(refine ixgi ?_;intro _ _));first|rintro _ _ _ _ _ ⟨rfl,rfl⟩ _|rintro _ _ _ _ _ ⟨_,rfl,_⟩ _|rintro _ _ _ _ _ ⟨_,_,_,_,rfl,rfl,_,_⟩ _|intro _ _ _ _ _ _ _))|(refine sx ?_;intro _ _)|((with_reducible refine g_awp ?_);simp only [g0,g1,g2]))
  exact pb rfl
theorem s_laws_toVerdictS (xs : List Verdict) (hs : xs.length + szs xs ≤ 1048576) : CopyL Tryz.prog n_laws_toVerdictS xs := copyL_of rfl rfl (by decide) hs (fun x hx => s_laws_toVerdict x hx) (fun g => c_laws_toVerdictS _ g)
theorem s_laws_eqVerdictS : EqS Verdict Tryz.prog n_laws_eqVerdictS := fun xs v v' F F' h r r' => reader (c_laws_eqVerdictS _ _) (by simp only [old]) (eqS_spec rfl s_laws_eqVerdict r r')
theorem s_laws_szVerdictS : SzL Verdict Tryz.prog n_laws_szVerdictS := fun xs _ v F b h r h0 h1 => reader (c_laws_szVerdictS _ _) (by simp only [old]) (by have := szF_spec (P := Tryz.prog) r h0 h1; rw [szs_zero (fun _ => rfl)]; exact this)
end Go.Proofs.YtekfdoknfcedpaaGreat
end
section
/- Bucket: copies, comparisons, sizes. Written by mkl.py. -/
set_option linter.unusedSimpArgs false
set_option linter.unusedVariables false
set_option maxHeartbeats 1000000
namespace Go.Proofs.YtekfdoknfcedpaaGreat
open Go Go.Ab
section
/- laws.toBucket -/
def p_laws_toBucket (x0 : AV) : Prog := .op (.box x0) fun a=>.op (.alloc [.int .i64 0, .int .i64 0, .int .i64 0, .int .i64 0]) fun b=>.op (.alloc [.int .i64 0, .int .i64 0, .int .i64 0, .int .i64 0]) fun c=>Lg 0 a fun d=>Sg 0 c d fun _=>Lg 1 a fun d=>Sg 1 c d fun _=>Lg 2 a fun d=>Sg 2 c d fun _=>Lg 3 a fun a=>Sg 3 c a fun _=>Ld 4 c fun a=>.op (.st 4 b a) fun _=>.fin [.cn 4 b]
theorem c_laws_toBucket (x0 : AV) : CC Tryz.prog n_laws_toBucket [x0] (p_laws_toBucket x0) := cc Tryz.func35
/- laws.eqBucket -/
def p_laws_eqBucket (x0 x1 : AV) : Prog := .op (.box x0) fun a=>.op (.box x1) fun b=>Lg 0 a fun c=>Lg 0 b fun d=>Bn .neq c d fun c=>.ite c (.fin [.val (.bool false)]) (Lg 1 a fun c=>Lg 1 b fun d=>Bn .neq c d fun c=>.ite c (.fin [.val (.bool false)]) (Lg 2 a fun c=>Lg 2 b fun d=>Bn .neq c d fun c=>.ite c (.fin [.val (.bool false)]) (Lg 3 a fun a=>Lg 3 b fun b=>Bn .neq a b fun a=>.ite a (.fin [.val (.bool false)]) (.fin [.val (.bool true)]))))
theorem c_laws_eqBucket (x0 x1 : AV) : CC Tryz.prog n_laws_eqBucket [x0, x1] (p_laws_eqBucket x0 x1) := cc Tryz.func50
end
theorem s_laws_toBucket (x : Bucket) (hs : Sz.sz x ≤ 1048576) : CopyX Bucket Tryz.prog n_laws_toBucket x := by
  rintro cs F h ⟨rfl, rfl⟩
  have hs : 0 ≤ 1048576 := hs
  refine c_laws_toBucket _ ?_
  unfold p_laws_toBucket
  (repeat' first|refine vs ?_|(refine br ?_ ?_<;>intro _<;>try(exfalso;first|omega|contradiction))|((with_reducible refine g_idx ?_);((first|refine ix ?_|refine ixi ?_|(refine ixg ?_;intro _ _)|(refine ixgi ?_;intro _ _));first|rintro _ _ _ _ _ ⟨rfl,rfl⟩ _|rintro _ _ _ _ _ ⟨_,rfl,_⟩ _|rintro _ _ _ _ _ ⟨_,_,_,_,rfl,rfl,_,_⟩ _|intro _ _ _ _ _ _ _))|(refine sx ?_;intro _ _)|((with_reducible refine g_awp ?_);simp only [g0,g1,g2]))
  exact ⟨rfl, _, rfl, ext_auto, _, _, rfl, ⟨rfl, rfl⟩, Own.nil⟩
theorem s_laws_eqBucket : EqC Bucket Tryz.prog n_laws_eqBucket := by
  rintro x cs cs' F F' h ⟨rfl, rfl⟩ ⟨rfl, rfl⟩
  refine reader (c_laws_eqBucket _ _) (by simp only [old]) ?_
  unfold p_laws_eqBucket
  (repeat' first|refine vs ?_|(refine br ?_ ?_<;>intro _<;>try(exfalso;first|omega|contradiction))|((with_reducible refine g_idx ?_);((first|refine ix ?_|refine ixi ?_|(refine ixg ?_;intro _ _)|(refine ixgi ?_;intro _ _));first|rintro _ _ _ _ _ ⟨rfl,rfl⟩ _|rintro _ _ _ _ _ ⟨_,rfl,_⟩ _|rintro _ _ _ _ _ ⟨_,_,_,_,rfl,rfl,_,_⟩ _|intro _ _ _ _ _ _ _))|(refine sx ?_;intro _ _)|((with_reducible refine g_awp ?_);simp only [g0,g1,g2]))
  exact pb rfl
end Go.Proofs.YtekfdoknfcedpaaGreat
end
section
/- Conf: copies, comparisons, sizes. Written by mkl.py. -/
set_option linter.unusedSimpArgs false
set_option linter.unusedVariables false
set_option maxHeartbeats 1000000
namespace Go.Proofs.YtekfdoknfcedpaaGreat
open Go Go.Ab
section
/- laws.toConf -/
def p_laws_toConf (x0 : AV) : Prog := .op (.box x0) fun a=>.op (.alloc z12_a94) fun b=>.op (.alloc z12_a94) fun c=>Lg 0 a fun d=>Sg 0 c d fun _=>Lg 1 a fun d=>Sg 1 c d fun _=>Lg 2 a fun d=>Sg 2 c d fun _=>Lg 3 a fun d=>Sg 3 c d fun _=>Lg 4 a fun d=>Sg 4 c d fun _=>Lg 5 a fun d=>Sg 5 c d fun _=>Lg 6 a fun d=>Sg 6 c d fun _=>.op (.fad 7 a) fun a=>Ld 5 a fun a=>Cl n_laws_toPol [a] fun a=>.op (.fad 7 c) fun d=>.op (.st 5 d a) fun _=>Ld 12 c fun a=>.op (.st 12 b a) fun _=>.fin [.cn 12 b]
theorem c_laws_toConf (x0 : AV) : CC Tryz.prog n_laws_toConf [x0] (p_laws_toConf x0) := cc Tryz.func33
/- laws.eqConf -/
def p_laws_eqConf (x0 x1 : AV) : Prog := .op (.box x0) fun a=>.op (.box x1) fun b=>Lg 0 a fun c=>Lg 0 b fun d=>Bn .neq c d fun c=>.ite c (.fin [.val (.bool false)]) (Lg 1 a fun c=>Lg 1 b fun d=>Bn .neq c d fun c=>.ite c (.fin [.val (.bool false)]) (Lg 2 a fun c=>Lg 2 b fun d=>Bn .neq c d fun c=>.ite c (.fin [.val (.bool false)]) (Lg 3 a fun c=>Lg 3 b fun d=>Bn .neq c d fun c=>.ite c (.fin [.val (.bool false)]) (Lg 4 a fun c=>Lg 4 b fun d=>Bn .neq c d fun c=>.ite c (.fin [.val (.bool false)]) (Lg 5 a fun c=>Lg 5 b fun d=>Bn .neq c d fun c=>.ite c (.fin [.val (.bool false)]) (Lg 6 a fun c=>Lg 6 b fun d=>Bn .neq c d fun c=>.ite c (.fin [.val (.bool false)]) (.op (.fad 7 a) fun a=>Ld 5 a fun a=>.op (.fad 7 b) fun b=>Ld 5 b fun b=>Cl n_laws_eqPol [a, b] fun a=>.op (.una .not a) fun a=>.ite a (.fin [.val (.bool false)]) (.fin [.val (.bool true)]))))))))
theorem c_laws_eqConf (x0 x1 : AV) : CC Tryz.prog n_laws_eqConf [x0, x1] (p_laws_eqConf x0 x1) := cc Tryz.func48
/- laws.szConf -/
def p_laws_szConf (x0 x1 : AV) : Prog := .op (.box x0) fun a=>.op (.fad 7 a) fun a=>Ld 5 a fun a=>Cl n_laws_szPol [a, x1] fun a=>Bn .lss a (.int .i64 0) fun b=>.ite b (.fin [.val (.int .i64 (-1))]) (.fin [.val a])
theorem c_laws_szConf (x0 x1 : AV) : CC Tryz.prog n_laws_szConf [x0, x1] (p_laws_szConf x0 x1) := cc Tryz.func21
end
theorem s_laws_toConf (x : Conf) (hs : Sz.sz x ≤ 1048576) : CopyX Conf Tryz.prog n_laws_toConf x := by
  rintro cs F h ⟨v0, rfl, r0⟩
  have hs : Sz.sz x.rule ≤ 1048576 := hs
  have e_rule : Sz.sz x.rule = x.rule.key.size + x.rule.text.size + (x.rule.l.length + szs x.rule.l) := Pol.sz_eq _
  refine c_laws_toConf _ ?_
  unfold p_laws_toConf
  (repeat' first|refine vs ?_|(refine br ?_ ?_<;>intro _<;>try(exfalso;first|omega|contradiction))|((with_reducible refine g_callf n_laws_toPol ?_);(refine aw_call (s_laws_toPol _ om_auto _ _ _ (Pol.rep_iff.2 ⟨_, rfl, slr_auto⟩)) ?_; rintro _ _ ⟨e_, _, _, rfl, r_, _⟩; obtain ⟨_, rfl, _⟩ := Pol.rep_iff.1 r_; have n_ := e_.1; (try simp only [push_n, upd_n] at n_)))|((with_reducible refine g_idx ?_);((first|refine ix ?_|refine ixi ?_|(refine ixg ?_;intro _ _)|(refine ixgi ?_;intro _ _));first|rintro _ _ _ _ _ ⟨rfl,rfl⟩ _|rintro _ _ _ _ _ ⟨_,rfl,_⟩ _|rintro _ _ _ _ _ ⟨_,_,_,_,rfl,rfl,_,_⟩ _|intro _ _ _ _ _ _ _))|(refine sx ?_;intro _ _)|((with_reducible refine g_awp ?_);simp only [g0,g1,g2]))
  exact ⟨rfl, _, rfl, ext_auto, _, _, rfl, ⟨_, rfl, slr_auto⟩, ol_auto⟩
theorem s_laws_eqConf : EqC Conf Tryz.prog n_laws_eqConf := by
  rintro x cs cs' F F' h ⟨v0, rfl, r0⟩ ⟨u0, rfl, q0⟩
  refine reader (c_laws_eqConf _ _) (by simp only [old]) ?_
  unfold p_laws_eqConf
  (repeat' first|refine vs ?_|(refine br ?_ ?_<;>intro _<;>try(exfalso;first|omega|contradiction))|((with_reducible refine g_callf n_laws_eqPol ?_);refine aw_rcall (s_laws_eqPol _ _ _ _ _ _ (Pol.rep_iff.2 ⟨_, rfl, slr_auto⟩) (Pol.rep_iff.2 ⟨_, rfl, slr_auto⟩)) ?_)|((with_reducible refine g_idx ?_);((first|refine ix ?_|refine ixi ?_|(refine ixg ?_;intro _ _)|(refine ixgi ?_;intro _ _));first|rintro _ _ _ _ _ ⟨rfl,rfl⟩ _|rintro _ _ _ _ _ ⟨_,rfl,_⟩ _|rintro _ _ _ _ _ ⟨_,_,_,_,rfl,rfl,_,_⟩ _|intro _ _ _ _ _ _ _))|(refine sx ?_;intro _ _)|((with_reducible refine g_awp ?_);simp only [g0,g1,g2]))
  exact pb rfl
theorem s_laws_szConf : SzC Conf Tryz.prog n_laws_szConf := by
  rintro x ok cs F b h ⟨v0, rfl, r0⟩ h0 h1
  obtain ⟨ok_stripes, ok_wait, ok_budget, ok_cache, ok_queue, ok_rate, ok_burst, ok_rule⟩ := ok
  have hS : Sz.sz x = Sz.sz x.rule := rfl
  have e_rule : Sz.sz x.rule = x.rule.key.size + x.rule.text.size + (x.rule.l.length + szs x.rule.l) := Pol.sz_eq _
  refine reader (c_laws_szConf _ _) (by simp only [old]) ?_
  unfold p_laws_szConf
  (repeat' first|refine vs ?_|(refine br ?_ ?_<;>intro _<;>try(exfalso;first|omega|contradiction))|((with_reducible refine g_callf n_laws_szPol ?_);(refine aw_sz (s_laws_szPol _ (by assumption) _ _ _ _ (Pol.rep_iff.2 ⟨_, rfl, slr_auto⟩) om_auto om_auto) (fun _ => ?_) (fun _ => ?_)))|((with_reducible refine g_idx ?_);((first|refine ix ?_|refine ixi ?_|(refine ixg ?_;intro _ _)|(refine ixgi ?_;intro _ _));first|rintro _ _ _ _ _ ⟨rfl,rfl⟩ _|rintro _ _ _ _ _ ⟨_,rfl,_⟩ _|rintro _ _ _ _ _ ⟨_,_,_,_,rfl,rfl,_,_⟩ _|intro _ _ _ _ _ _ _))|(refine sx ?_;intro _ _)|((with_reducible refine g_awp ?_);simp only [g0,g1,g2]))
  all_goals (refine pi ?_; unfold szr; split <;> omega)
end Go.Proofs.YtekfdoknfcedpaaGreat
end
