import Derived.Test.YtekfdoknfcedpaaGreatCKW1
/- Rules that may be; set-ups that may be. -/
set_option linter.unusedSimpArgs false
set_option linter.unusedVariables false
set_option maxHeartbeats 1000000
namespace Go.Proofs.YtekfdoknfcedpaaGreat
open Go Go.Ab
section
/- impl.polHeadOk -/
def p_impl_polHeadOk (x0 : AV) : Prog := .op (.box x0) fun a=>Lg 1 a fun b=>Bn .eql b (.int .i64 0) fun b=>Gf b true 2 a fun c=>.gop b true (.bin 1 .eql c (.str ⟨#[]⟩)) fun c=>Pk b c (.bool false) fun b=>Gf b true 3 a fun c=>.gop b true (.bin 1 .eql c (.str ⟨#[]⟩)) fun c=>Pk b c (.bool false) fun b=>Lg 0 a fun c=>Bn .eql c (.int .i64 1) fun d=>.scope (.ite d (.leaf 0 [d]) (Bn .eql c (.int .i64 2) fun a=>.scope (.ite a (.leaf 0 [a]) (Bn .eql c (.int .i64 6) fun a=>.leaf 0 [a])) (fun a=>.leaf 0 [g a 0]) fun a b=>tsel a 1 (.leaf 1 b) .bad)) (fun d=>.ite (g d 0) (Gf b true 4 a fun a=>.gop b true (.len 0 a) fun a=>.gop b true (.bin 0 .eql a (.int .i64 0)) fun a=>Pk b a (.bool false) fun a=>.fin [.val a]) (Bn .eql c (.int .i64 3) fun d=>.ite d (Lg 1 a fun b=>Cl n_impl_within [b, .int .i64 0, .int .i64 2147483647] fun b=>Gf b true 2 a fun c=>.gop b true (.bin 1 .eql c (.str ⟨#[]⟩)) fun c=>Pk b c (.bool false) fun b=>Gf b true 3 a fun c=>.gop b true (.bin 1 .eql c (.str ⟨#[]⟩)) fun c=>Pk b c (.bool false) fun b=>Gf b true 4 a fun a=>.gop b true (.len 0 a) fun a=>.gop b true (.bin 0 .eql a (.int .i64 0)) fun a=>Pk b a (.bool false) fun a=>.fin [.val a]) (Bn .eql c (.int .i64 4) fun d=>.ite d (Lg 1 a fun b=>Bn .eql b (.int .i64 0) fun b=>Gf b true 2 a fun c=>.gop b true (.call n_impl_NameOk [c]) fun c=>Pk b c (.bool false) fun b=>Gf b true 3 a fun c=>.gop b true (.call n_impl_PlainOk [c]) fun c=>Pk b c (.bool false) fun b=>Gf b true 4 a fun a=>.gop b true (.len 0 a) fun a=>.gop b true (.bin 0 .eql a (.int .i64 0)) fun a=>Pk b a (.bool false) fun a=>.fin [.val a]) (Bn .eql c (.int .i64 5) fun d=>.ite d (Lg 1 a fun b=>Cl n_impl_within [b, .int .i64 0, .int .i64 2147483647] fun b=>Gf b true 2 a fun c=>.gop b true (.call n_impl_NameOk [c]) fun c=>Pk b c (.bool false) fun b=>Gf b true 3 a fun c=>.gop b true (.bin 1 .eql c (.str ⟨#[]⟩)) fun c=>Pk b c (.bool false) fun b=>Gf b true 4 a fun a=>.gop b true (.len 0 a) fun a=>.gop b true (.bin 0 .eql a (.int .i64 0)) fun a=>Pk b a (.bool false) fun a=>.fin [.val a]) (Bn .eql c (.int .i64 7) fun d=>.scope (.ite d (.leaf 0 [d]) (Bn .eql c (.int .i64 8) fun a=>.leaf 0 [a])) (fun d=>.ite (g d 0) (Gf b true 4 a fun a=>.gop b true (.len 0 a) fun a=>.gop b true (.call n_impl_within [a, .int .i64 1, .int .i64 4]) fun a=>Pk b a (.bool false) fun a=>.fin [.val a]) (Bn .eql c (.int .i64 9) fun c=>.ite c (Gf b true 4 a fun a=>.gop b true (.len 0 a) fun a=>.gop b true (.bin 0 .eql a (.int .i64 1)) fun a=>Pk b a (.bool false) fun a=>.fin [.val a]) (.fin [.val (.bool false)]))) fun a b=>tsel a 1 (.leaf 1 b) .bad))))) fun a b=>tsel a 1 (.leaf 1 b) .bad
theorem c_impl_polHeadOk (x0 : AV) : CC Tryz.prog n_impl_polHeadOk [x0] (p_impl_polHeadOk x0) := cc Tryz.func332 [1, 3, 18, 19, 93] (fun _ => [])
/- spec.l5One -/
def p_spec_l5One (x0 : AV) : Prog := .op (.box x0) fun a=>Lg 0 a fun b=>Bn .eql b (.int .i64 1) fun c=>.scope (.ite c (.leaf 0 [c]) (Bn .eql b (.int .i64 2) fun a=>.scope (.ite a (.leaf 0 [a]) (Bn .eql b (.int .i64 6) fun a=>.leaf 0 [a])) (fun a=>.leaf 0 [g a 0]) fun a b=>tsel a 1 (.leaf 1 b) .bad)) (fun c=>.ite (g c 0) (Lg 1 a fun b=>Bn .eql b (.int .i64 0) fun b=>Gf b true 2 a fun c=>.gop b true (.bin 1 .eql c (.str ⟨#[]⟩)) fun c=>Pk b c (.bool false) fun b=>Gf b true 3 a fun c=>.gop b true (.bin 1 .eql c (.str ⟨#[]⟩)) fun c=>Pk b c (.bool false) fun b=>Gf b true 4 a fun a=>.gop b true (.len 0 a) fun a=>.gop b true (.bin 0 .eql a (.int .i64 0)) fun a=>Pk b a (.bool false) fun a=>.fin [.val a]) (Bn .eql b (.int .i64 3) fun c=>.ite c (Lg 1 a fun b=>Cl n_spec_l1In [b, .int .i64 0, .int .i64 2147483647] fun b=>Gf b true 2 a fun c=>.gop b true (.bin 1 .eql c (.str ⟨#[]⟩)) fun c=>Pk b c (.bool false) fun b=>Gf b true 3 a fun c=>.gop b true (.bin 1 .eql c (.str ⟨#[]⟩)) fun c=>Pk b c (.bool false) fun b=>Gf b true 4 a fun a=>.gop b true (.len 0 a) fun a=>.gop b true (.bin 0 .eql a (.int .i64 0)) fun a=>Pk b a (.bool false) fun a=>.fin [.val a]) (Bn .eql b (.int .i64 4) fun c=>.ite c (Lg 1 a fun b=>Bn .eql b (.int .i64 0) fun b=>Gf b true 2 a fun c=>.gop b true (.call n_spec_NameOk [c]) fun c=>Pk b c (.bool false) fun b=>Gf b true 3 a fun c=>.gop b true (.call n_spec_PlainOk [c]) fun c=>Pk b c (.bool false) fun b=>Gf b true 4 a fun a=>.gop b true (.len 0 a) fun a=>.gop b true (.bin 0 .eql a (.int .i64 0)) fun a=>Pk b a (.bool false) fun a=>.fin [.val a]) (Bn .eql b (.int .i64 5) fun c=>.ite c (Lg 1 a fun b=>Cl n_spec_l1In [b, .int .i64 0, .int .i64 2147483647] fun b=>Gf b true 2 a fun c=>.gop b true (.call n_spec_NameOk [c]) fun c=>Pk b c (.bool false) fun b=>Gf b true 3 a fun c=>.gop b true (.bin 1 .eql c (.str ⟨#[]⟩)) fun c=>Pk b c (.bool false) fun b=>Gf b true 4 a fun a=>.gop b true (.len 0 a) fun a=>.gop b true (.bin 0 .eql a (.int .i64 0)) fun a=>Pk b a (.bool false) fun a=>.fin [.val a]) (Bn .eql b (.int .i64 7) fun c=>.scope (.ite c (.leaf 0 [c]) (Bn .eql b (.int .i64 8) fun a=>.leaf 0 [a])) (fun b=>.ite (g b 0) (Lg 1 a fun b=>Bn .eql b (.int .i64 0) fun b=>Gf b true 2 a fun c=>.gop b true (.bin 1 .eql c (.str ⟨#[]⟩)) fun c=>Pk b c (.bool false) fun b=>Gf b true 3 a fun c=>.gop b true (.bin 1 .eql c (.str ⟨#[]⟩)) fun c=>Pk b c (.bool false) fun b=>Gf b true 4 a fun a=>.gop b true (.len 0 a) fun a=>.gop b true (.call n_spec_l1In [a, .int .i64 1, .int .i64 4]) fun a=>Pk b a (.bool false) fun a=>.fin [.val a]) (Lg 0 a fun b=>Bn .eql b (.int .i64 9) fun b=>Gf b true 1 a fun c=>.gop b true (.bin 0 .eql c (.int .i64 0)) fun c=>Pk b c (.bool false) fun b=>Gf b true 2 a fun c=>.gop b true (.bin 1 .eql c (.str ⟨#[]⟩)) fun c=>Pk b c (.bool false) fun b=>Gf b true 3 a fun c=>.gop b true (.bin 1 .eql c (.str ⟨#[]⟩)) fun c=>Pk b c (.bool false) fun b=>Gf b true 4 a fun a=>.gop b true (.len 0 a) fun a=>.gop b true (.bin 0 .eql a (.int .i64 1)) fun a=>Pk b a (.bool false) fun a=>.fin [.val a])) fun a b=>tsel a 1 (.leaf 1 b) .bad))))) fun a b=>tsel a 1 (.leaf 1 b) .bad
theorem c_spec_l5One (x0 : AV) : CC Tryz.prog n_spec_l5One [x0] (p_spec_l5One x0) := cc Tryz.func309 [1, 4, 5, 91] (fun _ => [])
/- impl.polParts -/
def p_impl_polParts (x0 x1 : AV) : Prog := .op (.box x0) fun a=>Bn .gtr x1 (.int .i64 4) fun b=>.gop b false (.ldn 5 a) fun c=>.gop b false (.call n_impl_polHeadOk [c]) fun c=>.gop b false (.una .not c) fun c=>Pk b (.bool true) c fun b=>.ite b (.fin [.val (.int .i64 13)]) (Lg 4 a fun a=>Ln 0 a fun b=>.loop [.int .i64 1, .int .i64 0] (fun c=>Bn .lss (g c 1) b fun b=>.ite b (Ix 5 a (g c 1) fun a=>Ld 5 a fun a=>.op (.alloc z5_5ed) fun b=>.op (.st 5 b a) fun _=>Ld 5 b fun a=>Bn .add x1 (.int .i64 1) fun b=>Cl n_impl_polParts [a, b] fun a=>Bn .add (g c 0) a fun a=>Bn .geq a (.int .i64 13) fun b=>.ite b (.fin [.val (.int .i64 13)]) (Bn .add (g c 1) (.int .i64 1) fun b=>.leaf 0 [a, b])) (.leaf 2 [g c 0, g c 1])) fun a b=>tsel a 1 (.leaf 1 b) (tsel a 2 (.fin [.val (g b 0)]) .bad))
theorem c_impl_polParts (x0 x1 : AV) : CC Tryz.prog n_impl_polParts [x0, x1] (p_impl_polParts x0 x1) := cc Tryz.func315 [1, 5, 16, 17, 18] (fun _ => [])
/- spec.l5Deep -/
def p_spec_l5Deep (x0 x1 : AV) : Prog := .op (.box x0) fun a=>Bn .gtr x1 (.int .i64 4) fun b=>.gop b false (.ldn 5 a) fun c=>.gop b false (.call n_spec_l5One [c]) fun c=>.gop b false (.una .not c) fun c=>Pk b (.bool true) c fun b=>.ite b (.fin [.val (.bool false)]) (.loop [.int .i64 0] (fun b=>Lg 4 a fun c=>Ln 0 c fun c=>Bn .lss (g b 0) c fun c=>.ite c (Lg 4 a fun a=>Ix 5 a (g b 0) fun a=>Ld 5 a fun a=>Bn .add x1 (.int .i64 1) fun c=>Cl n_spec_l5Deep [a, c] fun a=>.op (.una .not a) fun a=>.ite a (.fin [.val (.bool false)]) (Bn .add (g b 0) (.int .i64 1) fun a=>.leaf 0 [a])) (.leaf 2 [g b 0])) fun a b=>tsel a 1 (.leaf 1 b) (tsel a 2 (.fin [.val (.bool true)]) .bad))
theorem c_spec_l5Deep (x0 x1 : AV) : CC Tryz.prog n_spec_l5Deep [x0, x1] (p_spec_l5Deep x0 x1) := cc Tryz.func250 [1, 2, 5] (fun _ => [])
/- spec.PolCount -/
def p_spec_PolCount (x0 : AV) : Prog := .op (.box x0) fun a=>.loop [.int .i64 1, .int .i64 0] (fun b=>Lg 4 a fun c=>Ln 0 c fun c=>Bn .lss (g b 1) c fun c=>.ite c (Lg 4 a fun a=>Ix 5 a (g b 1) fun a=>Ld 5 a fun a=>Cl n_spec_PolCount [a] fun a=>Bn .add (g b 0) a fun a=>Bn .add (g b 1) (.int .i64 1) fun b=>.leaf 0 [a, b]) (.leaf 2 [g b 0, g b 1])) fun a b=>tsel a 1 (.leaf 1 b) (tsel a 2 (.fin [.val (g b 0)]) .bad)
theorem c_spec_PolCount (x0 : AV) : CC Tryz.prog n_spec_PolCount [x0] (p_spec_PolCount x0) := cc Tryz.func249 [1, 3, 4] (fun _ => [])
/- spec.PolOk -/
def p_spec_PolOk (x0 : AV) : Prog := .op (.box x0) fun a=>Ld 5 a fun b=>Cl n_spec_PolCount [b] fun b=>Bn .leq b (.int .i64 12) fun b=>.gop b true (.ldn 5 a) fun a=>.gop b true (.call n_spec_l5Deep [a, .int .i64 1]) fun a=>Pk b a (.bool false) fun a=>.fin [.val a]
theorem c_spec_PolOk (x0 : AV) : CC Tryz.prog n_spec_PolOk [x0] (p_spec_PolOk x0) := cc Tryz.func173
/- impl.PolOk -/
def p_impl_PolOk (x0 : AV) : Prog := .op (.box x0) fun a=>Ld 5 a fun a=>Cl n_impl_polParts [a, .int .i64 1] fun a=>Bn .leq a (.int .i64 12) fun a=>.fin [.val a]
theorem c_impl_PolOk (x0 : AV) : CC Tryz.prog n_impl_PolOk [x0] (p_impl_PolOk x0) := cc Tryz.func266
/- impl.ConfOk -/
def p_impl_ConfOk (x0 : AV) : Prog := .op (.box x0) fun a=>Lg 0 a fun b=>Cl n_impl_within [b, .int .i64 1, .int .i64 3] fun b=>Gf b true 1 a fun c=>.gop b true (.call n_impl_within [c, .int .i64 1, .int .i64 50]) fun c=>Pk b c (.bool false) fun b=>Gf b true 2 a fun c=>.gop b true (.call n_impl_within [c, .int .i64 1, .int .i64 190]) fun c=>Pk b c (.bool false) fun b=>Gf b true 3 a fun c=>.gop b true (.call n_impl_within [c, .int .i64 1, .int .i64 6]) fun c=>Pk b c (.bool false) fun b=>Gf b true 4 a fun c=>.gop b true (.call n_impl_within [c, .int .i64 1, .int .i64 4]) fun c=>Pk b c (.bool false) fun b=>Gf b true 5 a fun c=>.gop b true (.call n_impl_within [c, .int .i64 0, .int .i64 99]) fun c=>Pk b c (.bool false) fun b=>Gf b true 6 a fun c=>.gop b true (.call n_impl_within [c, .int .i64 0, .int .i64 999]) fun c=>Pk b c (.bool false) fun b=>.gop b true (.fad 7 a) fun a=>.gop b true (.ldn 5 a) fun a=>.gop b true (.call n_impl_PolOk [a]) fun a=>Pk b a (.bool false) fun a=>.fin [.val a]
theorem c_impl_ConfOk (x0 : AV) : CC Tryz.prog n_impl_ConfOk [x0] (p_impl_ConfOk x0) := cc Tryz.func195
/- spec.ConfOk -/
def p_spec_ConfOk (x0 : AV) : Prog := .op (.box x0) fun a=>Lg 0 a fun b=>Cl n_spec_l1In [b, .int .i64 1, .int .i64 3] fun b=>Gf b true 1 a fun c=>.gop b true (.call n_spec_l1In [c, .int .i64 1, .int .i64 50]) fun c=>Pk b c (.bool false) fun b=>Gf b true 2 a fun c=>.gop b true (.call n_spec_l1In [c, .int .i64 1, .int .i64 190]) fun c=>Pk b c (.bool false) fun b=>Gf b true 3 a fun c=>.gop b true (.call n_spec_l1In [c, .int .i64 1, .int .i64 6]) fun c=>Pk b c (.bool false) fun b=>Gf b true 4 a fun c=>.gop b true (.call n_spec_l1In [c, .int .i64 1, .int .i64 4]) fun c=>Pk b c (.bool false) fun b=>Gf b true 5 a fun c=>.gop b true (.call n_spec_l1In [c, .int .i64 0, .int .i64 99]) fun c=>Pk b c (.bool false) fun b=>Gf b true 6 a fun c=>.gop b true (.call n_spec_l1In [c, .int .i64 0, .int .i64 999]) fun c=>Pk b c (.bool false) fun b=>.gop b true (.fad 7 a) fun a=>.gop b true (.ldn 5 a) fun a=>.gop b true (.call n_spec_PolOk [a]) fun a=>Pk b a (.bool false) fun a=>.fin [.val a]
theorem c_spec_ConfOk (x0 : AV) : CC Tryz.prog n_spec_ConfOk [x0] (p_spec_ConfOk x0) := cc Tryz.func97
end
def bareP (p : Pol) : Prop := p.n = 0 ∧ p.key = ⟨#[]⟩ ∧ p.text = ⟨#[]⟩
def polHead (p : Pol) : Prop :=
  ((p.kind = 1 ∨ p.kind = 2 ∨ p.kind = 6) ∧ bareP p ∧ (p.l.length : Int) = 0) ∨
  (p.kind = 3 ∧ (0 ≤ p.n ∧ p.n ≤ 2147483647) ∧ p.key = ⟨#[]⟩ ∧ p.text = ⟨#[]⟩ ∧ (p.l.length : Int) = 0) ∨
  (p.kind = 4 ∧ p.n = 0 ∧ nameOk p.key ∧ plainOk p.text ∧ (p.l.length : Int) = 0) ∨
  (p.kind = 5 ∧ (0 ≤ p.n ∧ p.n ≤ 2147483647) ∧ nameOk p.key ∧ p.text = ⟨#[]⟩ ∧ (p.l.length : Int) = 0) ∨
  ((p.kind = 7 ∨ p.kind = 8) ∧ bareP p ∧ 1 ≤ (p.l.length : Int) ∧ (p.l.length : Int) ≤ 4) ∨
  (p.kind = 9 ∧ bareP p ∧ (p.l.length : Int) = 1)
theorem pol_ok {p : Pol} (ok : Cel.ok p) : p.key.size ≤ maxLen ∧ p.text.size ≤ maxLen ∧ ∀ y ∈ p.l, Cel.ok y := by
  cases p with
  | mk k n s t l => exact ⟨ok.2.2.1, ok.2.2.2.1, Pol.oks_iff.1 ok.2.2.2.2⟩

theorem s_impl_polHeadOk {h : AH} {p : Pol} {v : AV} {F : List Nat} (ok : Cel.ok p) (r : SlRep h v p.l F) : RCalls Tryz.prog n_impl_polHeadOk [.agg (p.cs v)] h (.bool (bp (polHead p))) := by
  refine reader (c_impl_polHeadOk _) (by simp only [old]) ?_
  unfold p_impl_polHeadOk
  obtain ⟨k1, k3, -⟩ := pol_ok ok
  (repeat' first|refine vs ?_|(refine br ?_ ?_<;>intro _<;>try(exfalso;first|omega|contradiction))|((with_reducible refine g_callf n_impl_NameOk ?_);(refine aw_rcall_b (s_impl_NameOk k1) ?_ ?_ <;> intro hn <;> first | replace hn := bp_true hn | replace hn := bp_false hn))|((with_reducible refine g_callf n_impl_PlainOk ?_);(refine aw_rcall_b (s_impl_PlainOk k3) ?_ ?_ <;> intro hp <;> first | replace hp := bp_true hp | replace hp := bp_false hp))|((with_reducible refine g_callf n_impl_within ?_);(refine aw_rcall_b s_impl_within ?_ ?_ <;> intro hb <;> first | replace hb := inB_t hb | replace hb := inB_f hb))|((with_reducible refine g_idx ?_);((first|refine ix ?_|refine ixi ?_|(refine ixg ?_;intro _ _)|(refine ixgi ?_;intro _ _));first|rintro _ _ _ _ _ ⟨rfl,rfl⟩ _|rintro _ _ _ _ _ ⟨_,rfl,_⟩ _|rintro _ _ _ _ _ ⟨_,_,_,_,rfl,rfl,_,_⟩ _|intro _ _ _ _ _ _ _))|(refine sx ?_;intro _ _)|((with_reducible refine g_awp ?_);simp only [g0,g1,g2]))
  all_goals first
    | (refine pt ?_; unfold polHead bareP; simp_all; done)
    | (refine pf ?_; unfold polHead bareP; simp_all; done)
    | (refine pf ?_; unfold polHead bareP; simp_all; omega)
    | (refine pt ?_; unfold polHead bareP; simp_all; omega)
    | (refine pf ?_; unfold polHead bareP; simp_all; intros; omega)
theorem s_spec_l5One {h : AH} {p : Pol} {v : AV} {F : List Nat} (ok : Cel.ok p) (r : SlRep h v p.l F) : RCalls Tryz.prog n_spec_l5One [.agg (p.cs v)] h (.bool (bp (polHead p))) := by
  refine reader (c_spec_l5One _) (by simp only [old]) ?_
  unfold p_spec_l5One
  obtain ⟨k1, k3, -⟩ := pol_ok ok
  (repeat' first|refine vs ?_|(refine br ?_ ?_<;>intro _<;>try(exfalso;first|omega|contradiction))|((with_reducible refine g_callf n_spec_NameOk ?_);(refine aw_rcall_b (s_spec_NameOk k1) ?_ ?_ <;> intro hn <;> first | replace hn := bp_true hn | replace hn := bp_false hn))|((with_reducible refine g_callf n_spec_PlainOk ?_);(refine aw_rcall_b (s_spec_PlainOk k3) ?_ ?_ <;> intro hp <;> first | replace hp := bp_true hp | replace hp := bp_false hp))|((with_reducible refine g_callf n_spec_l1In ?_);(refine aw_rcall_b s_spec_l1In ?_ ?_ <;> intro hb <;> first | replace hb := inB_t hb | replace hb := inB_f hb))|((with_reducible refine g_idx ?_);((first|refine ix ?_|refine ixi ?_|(refine ixg ?_;intro _ _)|(refine ixgi ?_;intro _ _));first|rintro _ _ _ _ _ ⟨rfl,rfl⟩ _|rintro _ _ _ _ _ ⟨_,rfl,_⟩ _|rintro _ _ _ _ _ ⟨_,_,_,_,rfl,rfl,_,_⟩ _|intro _ _ _ _ _ _ _))|(refine sx ?_;intro _ _)|((with_reducible refine g_awp ?_);simp only [g0,g1,g2]))
  all_goals first
    | (refine pt ?_; unfold polHead bareP; simp_all; done)
    | (refine pf ?_; unfold polHead bareP; simp_all; done)
    | (refine pf ?_; unfold polHead bareP; simp_all; omega)
    | (refine pt ?_; unfold polHead bareP; simp_all; omega)
    | (refine pf ?_; unfold polHead bareP; simp_all; intros; omega)

mutual
def cntP : Pol → Int
  | .mk _ _ _ _ l => 1 + cntsP l
def cntsP : List Pol → Int
  | [] => 0
  | p :: ps => cntP p + cntsP ps
end
theorem cntsP_eq : ∀ l : List Pol, cntsP l = sumI cntP l
  | [] => by simp [cntsP, sumI]
  | p :: ps => by simp only [cntsP, sumI, cntsP_eq ps]
theorem cntP_eq (x : Pol) : cntP x = 1 + sumI cntP x.l := by
  cases x with
  | mk k n s t l => rw [← cntsP_eq]; simp only [cntP, Pol.l]
theorem sumI_cnt {l : List Pol} (hb : ∀ x ∈ l, 1 ≤ cntP x ∧ cntP x ≤ 1 + (Sz.sz x : Nat)) : 0 ≤ sumI cntP l ∧ sumI cntP l ≤ l.length + (szs l : Nat) := by
  induction l with
  | nil => simp [sumI, szs]
  | cons x l ih =>
    have h1 := hb x (by simp); have h2 := ih fun y hy => hb y (by simp [hy])
    simp only [sumI, szs, List.length_cons]; omega
theorem cntP_b (x : Pol) : 1 ≤ cntP x ∧ cntP x ≤ 1 + (Sz.sz x : Nat) := by
  refine pol_ind (p := fun x => 1 ≤ cntP x ∧ cntP x ≤ 1 + (Sz.sz x : Nat)) ?_ x
  intro x ih
  have h1 := sumI_cnt ih
  have h2 := Pol.sz_eq x
  rw [cntP_eq]; omega
theorem cnt_take (l : List Pol) (i : Nat) : 0 ≤ sumI cntP (l.take i) ∧ sumI cntP (l.take i) ≤ sumI cntP l := by
  have h1 := sumI_cnt (l := l.take i) fun x _ => cntP_b x
  have h2 := sumI_cnt (l := l.drop i) fun x _ => cntP_b x
  have h3 := sumI_app cntP (l.take i) (l.drop i)
  rw [List.take_append_drop] at h3
  omega

theorem s_spec_PolCount (p : Pol) : Sz.sz p ≤ 67108864 → ∀ {h : AH} {v : AV} {F : List Nat}, SlRep h v p.l F → RCalls Tryz.prog n_spec_PolCount [.agg (p.cs v)] h (.int .i64 (cntP p)) := by
  refine pol_ind (p := fun p => Sz.sz p ≤ 67108864 → ∀ {h : AH} {v : AV} {F : List Nat}, SlRep h v p.l F → RCalls Tryz.prog n_spec_PolCount [.agg (p.cs v)] h (.int .i64 (cntP p))) ?_ p
  intro p ih hs h v F r
  refine reader (c_spec_PolCount _) (by simp only [old]) ?_
  unfold p_spec_PolCount
  have hsz := Pol.sz_eq p
  have hsm := r.small
  refine vs ?_
  refine aw_upto p.l.length (fun i vs h1 => vs = [.int .i64 (1 + sumI cntP (p.l.take i)), .int .i64 (i : Int)] ∧ i ≤ p.l.length ∧ Ext (h.push ⟨p.cs v, 0, 0⟩) h1) ⟨rfl, Nat.zero_le _, ext_auto⟩ ?_
  rintro i vs h1 _ ⟨rfl, hi, e1⟩
  simp only [g0, g1]
  refine vs ?_
  refine br (fun hlt => ?_) (fun hge => ?_)
  · obtain ⟨x, hx, -, ht⟩ := drop_step (show i < p.l.length by omega)
    have hm := List.mem_of_getElem? hx
    have h5 := szs_mem hm
    have h6 := cntP_b x
    have h7 := cnt_take p.l i
    have h8 := sumI_cnt (l := p.l) fun x _ => cntP_b x
    refine vs ?_
    refine aw_idx r hx rfl ?_
    intro bb o cs Fi aa q _
    rw [Pol.rep_iff] at q
    obtain ⟨w, rfl, q⟩ := q
    have s_spec_PolCount := @ih x hm (by omega)
    (repeat' first|refine vs ?_|(refine br ?_ ?_<;>intro _<;>try(exfalso;first|omega|contradiction))|((with_reducible refine g_callf n_spec_PolCount ?_);refine aw_rcall (s_spec_PolCount slr_auto) ?_)|((with_reducible refine g_idx ?_);((first|refine ix ?_|refine ixi ?_|(refine ixg ?_;intro _ _)|(refine ixgi ?_;intro _ _));first|rintro _ _ _ _ _ ⟨rfl,rfl⟩ _|rintro _ _ _ _ _ ⟨_,rfl,_⟩ _|rintro _ _ _ _ _ ⟨_,_,_,_,rfl,rfl,_,_⟩ _|intro _ _ _ _ _ _ _))|(refine sx ?_;intro _ _)|((with_reducible refine g_awp ?_);simp only [g0,g1,g2]))
    exact ⟨by omega, by rw [sumI_take _ ht, Int.add_assoc], by omega, ext_auto⟩
  · (repeat' first|refine vs ?_|(refine br ?_ ?_<;>intro _<;>try(exfalso;first|omega|contradiction))|((with_reducible refine g_idx ?_);((first|refine ix ?_|refine ixi ?_|(refine ixg ?_;intro _ _)|(refine ixgi ?_;intro _ _));first|rintro _ _ _ _ _ ⟨rfl,rfl⟩ _|rintro _ _ _ _ _ ⟨_,rfl,_⟩ _|rintro _ _ _ _ _ ⟨_,_,_,_,rfl,rfl,_,_⟩ _|intro _ _ _ _ _ _ _))|(refine sx ?_;intro _ _)|((with_reducible refine g_awp ?_);simp only [g0,g1,g2]))
    refine pi ?_
    rw [show i = p.l.length by omega, List.take_length, cntP_eq]

mutual
def deepP : Int → Pol → Prop
  | d, .mk k n s t l => d ≤ 4 ∧ polHead (.mk k n s t l) ∧ deepsP (d + 1) l
def deepsP : Int → List Pol → Prop
  | _, [] => True
  | d, p :: ps => deepP d p ∧ deepsP d ps
end
theorem deepsP_iff : ∀ {l : List Pol} {d : Int}, deepsP d l ↔ ∀ x ∈ l, deepP d x
  | [], d => by simp [deepsP]
  | p :: ps, d => by simp only [deepsP, List.mem_cons, forall_eq_or_imp, deepsP_iff (l := ps)]
theorem deepP_iff {d : Int} {x : Pol} : deepP d x ↔ d ≤ 4 ∧ polHead x ∧ ∀ y ∈ x.l, deepP (d + 1) y := by
  cases x with
  | mk k n s t l => rw [← deepsP_iff]; simp only [deepP, Pol.l]

theorem s_spec_l5Deep (p : Pol) : Cel.ok p → ∀ {h : AH} {d : Int} {v : AV} {F : List Nat}, 0 ≤ d → SlRep h v p.l F → RCalls Tryz.prog n_spec_l5Deep [.agg (p.cs v), .int .i64 d] h (.bool (bp (deepP d p))) := by
  refine pol_ind (p := fun p => Cel.ok p → ∀ {h : AH} {d : Int} {v : AV} {F : List Nat}, 0 ≤ d → SlRep h v p.l F → RCalls Tryz.prog n_spec_l5Deep [.agg (p.cs v), .int .i64 d] h (.bool (bp (deepP d p)))) ?_ p
  intro p ih ok h d v F hd r
  refine reader (c_spec_l5Deep _ _) (by simp only [old]) ?_
  unfold p_spec_l5Deep
  have hsm := r.small
  obtain ⟨-, -, okl⟩ := pol_ok ok
  (repeat' first|refine vs ?_|(refine br ?_ ?_<;>intro _<;>try(exfalso;first|omega|contradiction))|((with_reducible refine g_callf n_spec_l5One ?_);(refine aw_rcall_b (s_spec_l5One ok slr_auto) ?_ ?_ <;> intro hn <;> first | replace hn := bp_true hn | replace hn := bp_false hn))|((with_reducible refine g_idx ?_);((first|refine ix ?_|refine ixi ?_|(refine ixg ?_;intro _ _)|(refine ixgi ?_;intro _ _));first|rintro _ _ _ _ _ ⟨rfl,rfl⟩ _|rintro _ _ _ _ _ ⟨_,rfl,_⟩ _|rintro _ _ _ _ _ ⟨_,_,_,_,rfl,rfl,_,_⟩ _|intro _ _ _ _ _ _ _))|(refine sx ?_;intro _ _)|((with_reducible refine g_awp ?_);simp only [g0,g1,g2]))
  all_goals first
    | (refine pf ?_; rw [deepP_iff]; rintro ⟨a1, a2, a3⟩; first | contradiction | omega)
    | skip
  refine aw_upto p.l.length (fun i vs h1 => vs = [.int .i64 (i : Int)] ∧ i ≤ p.l.length ∧ Ext (h.push ⟨p.cs v, 0, 0⟩) h1 ∧ Upto p.l (fun _ x => deepP (d + 1) x) i) ⟨rfl, Nat.zero_le _, ext_auto, up0⟩ ?_
  rintro i vs h1 _ ⟨rfl, hi, e1, hu⟩
  simp only [g0]
  refine vs ?_
  refine br (fun hlt => ?_) (fun hge => ?_)
  · obtain ⟨x, hx, -, -⟩ := drop_step (show i < p.l.length by omega)
    have hm := List.mem_of_getElem? hx
    refine vs ?_
    refine aw_idx r hx rfl ?_
    intro bb o cs Fi aa q _
    rw [Pol.rep_iff] at q
    obtain ⟨w, rfl, q⟩ := q
    have s_spec_l5Deep := @ih x hm (okl x hm)
    (repeat' first|refine vs ?_|(refine br ?_ ?_<;>intro _<;>try(exfalso;first|omega|contradiction))|((with_reducible refine g_callf n_spec_l5Deep ?_);(refine aw_rcall_b (s_spec_l5Deep om_auto slr_auto) ?_ ?_ <;> intro hd2 <;> first | replace hd2 := bp_true hd2 | replace hd2 := bp_false hd2))|((with_reducible refine g_idx ?_);((first|refine ix ?_|refine ixi ?_|(refine ixg ?_;intro _ _)|(refine ixgi ?_;intro _ _));first|rintro _ _ _ _ _ ⟨rfl,rfl⟩ _|rintro _ _ _ _ _ ⟨_,rfl,_⟩ _|rintro _ _ _ _ _ ⟨_,_,_,_,rfl,rfl,_,_⟩ _|intro _ _ _ _ _ _ _))|(refine sx ?_;intro _ _)|((with_reducible refine g_awp ?_);simp only [g0,g1,g2]))
    · exact ⟨by omega, rfl, by omega, ext_auto, upS hu hx hd2⟩
    · refine pf ?_
      rw [deepP_iff]
      rintro ⟨a1, a2, a3⟩
      exact hd2 (a3 x hm)
  · (repeat' first|refine vs ?_|(refine br ?_ ?_<;>intro _<;>try(exfalso;first|omega|contradiction))|((with_reducible refine g_idx ?_);((first|refine ix ?_|refine ixi ?_|(refine ixg ?_;intro _ _)|(refine ixgi ?_;intro _ _));first|rintro _ _ _ _ _ ⟨rfl,rfl⟩ _|rintro _ _ _ _ _ ⟨_,rfl,_⟩ _|rintro _ _ _ _ _ ⟨_,_,_,_,rfl,rfl,_,_⟩ _|intro _ _ _ _ _ _ _))|(refine sx ?_;intro _ _)|((with_reducible refine g_awp ?_);simp only [g0,g1,g2]))
    rw [show i = p.l.length by omega] at hu
    refine pt ?_
    rw [deepP_iff]
    exact ⟨by omega, hn, upAll hu⟩

noncomputable def parts (d : Int) (p : Pol) : Int := if bp (deepP d p ∧ cntP p ≤ 12) = true then cntP p else 13
theorem parts_y {d : Int} {p : Pol} (h1 : deepP d p) (h2 : cntP p ≤ 12) : parts d p = cntP p := by unfold parts; rw [if_pos (bp_t ⟨h1, h2⟩)]
theorem parts_n {d : Int} {p : Pol} (h : ¬ (deepP d p ∧ cntP p ≤ 12)) : parts d p = 13 := by unfold parts; rw [bp_f h, if_neg (by decide)]
theorem parts_c (d : Int) (p : Pol) : (parts d p = cntP p ∧ deepP d p ∧ cntP p ≤ 12) ∨ (parts d p = 13 ∧ ¬ (deepP d p ∧ cntP p ≤ 12)) := by
  by_cases h : deepP d p ∧ cntP p ≤ 12
  · exact .inl ⟨parts_y h.1 h.2, h⟩
  · exact .inr ⟨parts_n h, h⟩
theorem s_impl_polParts (p : Pol) : Cel.ok p → ∀ {h : AH} {d : Int} {v : AV} {F : List Nat}, 0 ≤ d → SlRep h v p.l F → RCalls Tryz.prog n_impl_polParts [.agg (p.cs v), .int .i64 d] h (.int .i64 (parts d p)) := by
  refine pol_ind (p := fun p => Cel.ok p → ∀ {h : AH} {d : Int} {v : AV} {F : List Nat}, 0 ≤ d → SlRep h v p.l F → RCalls Tryz.prog n_impl_polParts [.agg (p.cs v), .int .i64 d] h (.int .i64 (parts d p))) ?_ p
  intro p ih ok h d v F hd r
  refine reader (c_impl_polParts _ _) (by simp only [old]) ?_
  unfold p_impl_polParts
  have hsm := r.small
  obtain ⟨-, -, okl⟩ := pol_ok ok
  (repeat' first|refine vs ?_|(refine br ?_ ?_<;>intro _<;>try(exfalso;first|omega|contradiction))|((with_reducible refine g_callf n_impl_polHeadOk ?_);(refine aw_rcall_b (s_impl_polHeadOk ok slr_auto) ?_ ?_ <;> intro hn <;> first | replace hn := bp_true hn | replace hn := bp_false hn))|((with_reducible refine g_idx ?_);((first|refine ix ?_|refine ixi ?_|(refine ixg ?_;intro _ _)|(refine ixgi ?_;intro _ _));first|rintro _ _ _ _ _ ⟨rfl,rfl⟩ _|rintro _ _ _ _ _ ⟨_,rfl,_⟩ _|rintro _ _ _ _ _ ⟨_,_,_,_,rfl,rfl,_,_⟩ _|intro _ _ _ _ _ _ _))|(refine sx ?_;intro _ _)|((with_reducible refine g_awp ?_);simp only [g0,g1,g2]))
  all_goals first
    | (refine pi (parts_n ?_).symm; rw [deepP_iff]; rintro ⟨⟨a1, a2, a3⟩, a4⟩; first | contradiction | omega)
    | skip
  refine aw_upto p.l.length (fun i vs h1 => vs = [.int .i64 (1 + sumI cntP (p.l.take i)), .int .i64 (i : Int)] ∧ i ≤ p.l.length ∧ Ext (h.push ⟨p.cs v, 0, 0⟩) h1 ∧ Upto p.l (fun _ x => deepP (d + 1) x) i ∧ 1 + sumI cntP (p.l.take i) ≤ 12) ⟨rfl, Nat.zero_le _, ext_auto, up0, by simp [sumI]⟩ ?_
  rintro i vs h1 _ ⟨rfl, hi, e1, hu, hc⟩
  simp only [g0, g1]
  refine br (fun hlt => ?_) (fun hge => ?_)
  · obtain ⟨x, hx, -, ht⟩ := drop_step (show i < p.l.length by omega)
    have hm := List.mem_of_getElem? hx
    have h6 := cntP_b x
    have h7 := cnt_take p.l i
    have h8 := cnt_take p.l (i + 1)
    rw [sumI_take _ ht] at h8
    have h9 := cntP_eq p
    have h10 := parts_c (d + 1) x
    refine vs ?_
    refine aw_idx r hx rfl ?_
    intro bb o cs Fi aa q _
    rw [Pol.rep_iff] at q
    obtain ⟨w, rfl, q⟩ := q
    have s_impl_polParts := @ih x hm (okl x hm)
    (repeat' first|refine vs ?_|(refine br ?_ ?_<;>intro _<;>try(exfalso;first|omega|contradiction))|((with_reducible refine g_callf n_impl_polParts ?_);refine aw_rcall (s_impl_polParts om_auto slr_auto) ?_)|((with_reducible refine g_idx ?_);((first|refine ix ?_|refine ixi ?_|(refine ixg ?_;intro _ _)|(refine ixgi ?_;intro _ _));first|rintro _ _ _ _ _ ⟨rfl,rfl⟩ _|rintro _ _ _ _ _ ⟨_,rfl,_⟩ _|rintro _ _ _ _ _ ⟨_,_,_,_,rfl,rfl,_,_⟩ _|intro _ _ _ _ _ _ _))|(refine sx ?_;intro _ _)|((with_reducible refine g_awp ?_);simp only [g0,g1,g2]))
    · refine pi (parts_n ?_).symm
      rw [deepP_iff]
      rintro ⟨⟨a1, a2, a3⟩, a4⟩
      have := a3 x hm
      rcases h10 with ⟨b1, b2, b3⟩ | ⟨b1, b2⟩
      · omega
      · exact b2 ⟨this, by omega⟩
    · rcases h10 with ⟨b1, b2, b3⟩ | ⟨b1, b2⟩
      · exact ⟨by omega, by rw [sumI_take _ ht, Int.add_assoc, b1], by omega, ext_auto, upS hu hx b2, by rw [sumI_take _ ht]; omega⟩
      · exfalso; omega
  · (repeat' first|refine vs ?_|(refine br ?_ ?_<;>intro _<;>try(exfalso;first|omega|contradiction))|((with_reducible refine g_idx ?_);((first|refine ix ?_|refine ixi ?_|(refine ixg ?_;intro _ _)|(refine ixgi ?_;intro _ _));first|rintro _ _ _ _ _ ⟨rfl,rfl⟩ _|rintro _ _ _ _ _ ⟨_,rfl,_⟩ _|rintro _ _ _ _ _ ⟨_,_,_,_,rfl,rfl,_,_⟩ _|intro _ _ _ _ _ _ _))|(refine sx ?_;intro _ _)|((with_reducible refine g_awp ?_);simp only [g0,g1,g2]))
    have e : i = p.l.length := by omega
    rw [e, List.take_length] at hc
    rw [e] at hu
    have h9 := cntP_eq p
    rw [e, List.take_length, ← h9]
    refine pi (parts_y ?_ (by omega)).symm
    rw [deepP_iff]
    exact ⟨by omega, hn, upAll hu⟩

def polOk (p : Pol) : Prop := deepP 1 p ∧ cntP p ≤ 12
theorem s_impl_PolOk {h : AH} {p : Pol} {v : AV} {F : List Nat} (ok : Cel.ok p) (r : SlRep h v p.l F) : RCalls Tryz.prog n_impl_PolOk [.agg (p.cs v)] h (.bool (bp (polOk p))) := by
  refine reader (c_impl_PolOk _) (by simp only [old]) ?_
  unfold p_impl_PolOk
  have h10 := parts_c 1 p
  (repeat' first|refine vs ?_|(refine br ?_ ?_<;>intro _<;>try(exfalso;first|omega|contradiction))|((with_reducible refine g_callf n_impl_polParts ?_);refine aw_rcall (s_impl_polParts p ok om_auto slr_auto) ?_)|((with_reducible refine g_idx ?_);((first|refine ix ?_|refine ixi ?_|(refine ixg ?_;intro _ _)|(refine ixgi ?_;intro _ _));first|rintro _ _ _ _ _ ⟨rfl,rfl⟩ _|rintro _ _ _ _ _ ⟨_,rfl,_⟩ _|rintro _ _ _ _ _ ⟨_,_,_,_,rfl,rfl,_,_⟩ _|intro _ _ _ _ _ _ _))|(refine sx ?_;intro _ _)|((with_reducible refine g_awp ?_);simp only [g0,g1,g2]))
  · rcases h10 with ⟨b1, b2, b3⟩ | ⟨b1, b2⟩
    · exact pt ⟨b2, b3⟩
    · exfalso; omega
  · rcases h10 with ⟨b1, b2, b3⟩ | ⟨b1, b2⟩
    · exfalso; omega
    · exact pf b2
theorem s_spec_PolOk {h : AH} {p : Pol} {v : AV} {F : List Nat} (ok : Cel.ok p) (hs : Sz.sz p ≤ 67108864) (r : SlRep h v p.l F) : RCalls Tryz.prog n_spec_PolOk [.agg (p.cs v)] h (.bool (bp (polOk p))) := by
  refine reader (c_spec_PolOk _) (by simp only [old]) ?_
  unfold p_spec_PolOk
  (repeat' first|refine vs ?_|(refine br ?_ ?_<;>intro _<;>try(exfalso;first|omega|contradiction))|((with_reducible refine g_callf n_spec_PolCount ?_);refine aw_rcall (s_spec_PolCount p hs slr_auto) ?_)|((with_reducible refine g_callf n_spec_l5Deep ?_);(refine aw_rcall_b (s_spec_l5Deep p ok om_auto slr_auto) ?_ ?_ <;> intro hn <;> first | replace hn := bp_true hn | replace hn := bp_false hn))|((with_reducible refine g_idx ?_);((first|refine ix ?_|refine ixi ?_|(refine ixg ?_;intro _ _)|(refine ixgi ?_;intro _ _));first|rintro _ _ _ _ _ ⟨rfl,rfl⟩ _|rintro _ _ _ _ _ ⟨_,rfl,_⟩ _|rintro _ _ _ _ _ ⟨_,_,_,_,rfl,rfl,_,_⟩ _|intro _ _ _ _ _ _ _))|(refine sx ?_;intro _ _)|((with_reducible refine g_awp ?_);simp only [g0,g1,g2]))
  all_goals first
    | exact pt ⟨by assumption, by assumption⟩
    | exact pf fun k => by obtain ⟨a1, a2⟩ := k; first | contradiction | omega

def confOk (c : Conf) : Prop := (1 ≤ c.stripes ∧ c.stripes ≤ 3) ∧ (1 ≤ c.wait ∧ c.wait ≤ 50) ∧ (1 ≤ c.budget ∧ c.budget ≤ 190) ∧ (1 ≤ c.cache ∧ c.cache ≤ 6) ∧ (1 ≤ c.queue ∧ c.queue ≤ 4) ∧ (0 ≤ c.rate ∧ c.rate ≤ 99) ∧ (0 ≤ c.burst ∧ c.burst ≤ 999) ∧ polOk c.rule
theorem s_impl_ConfOk {h : AH} {c : Conf} {v : AV} {F : List Nat} (ok : Cel.ok c.rule) (r : SlRep h v c.rule.l F) : RCalls Tryz.prog n_impl_ConfOk [.agg (c.cs v)] h (.bool (bp (confOk c))) := by
  refine reader (c_impl_ConfOk _) (by simp only [old]) ?_
  unfold p_impl_ConfOk
  (repeat' first|refine vs ?_|(refine br ?_ ?_<;>intro _<;>try(exfalso;first|omega|contradiction))|((with_reducible refine g_callf n_impl_within ?_);(refine aw_rcall_b s_impl_within ?_ ?_ <;> intro hb <;> first | replace hb := inB_t hb | replace hb := inB_f hb))|((with_reducible refine g_callf n_impl_PolOk ?_);(refine aw_rcall_b (s_impl_PolOk (p := c.rule) ok slr_auto) ?_ ?_ <;> intro hn <;> first | replace hn := bp_true hn | replace hn := bp_false hn))|((with_reducible refine g_idx ?_);((first|refine ix ?_|refine ixi ?_|(refine ixg ?_;intro _ _)|(refine ixgi ?_;intro _ _));first|rintro _ _ _ _ _ ⟨rfl,rfl⟩ _|rintro _ _ _ _ _ ⟨_,rfl,_⟩ _|rintro _ _ _ _ _ ⟨_,_,_,_,rfl,rfl,_,_⟩ _|intro _ _ _ _ _ _ _))|(refine sx ?_;intro _ _)|((with_reducible refine g_awp ?_);simp only [g0,g1,g2]))
  all_goals first
    | exact pt ⟨by omega, by omega, by omega, by omega, by omega, by omega, by omega, by assumption⟩
    | exact pf fun k => by obtain ⟨a1, a2, a3, a4, a5, a6, a7, a8⟩ := k; first | contradiction | omega
theorem s_spec_ConfOk {h : AH} {c : Conf} {v : AV} {F : List Nat} (ok : Cel.ok c.rule) (hs : Sz.sz c ≤ 67108864) (r : SlRep h v c.rule.l F) : RCalls Tryz.prog n_spec_ConfOk [.agg (c.cs v)] h (.bool (bp (confOk c))) := by
  refine reader (c_spec_ConfOk _) (by simp only [old]) ?_
  unfold p_spec_ConfOk
  (repeat' first|refine vs ?_|(refine br ?_ ?_<;>intro _<;>try(exfalso;first|omega|contradiction))|((with_reducible refine g_callf n_spec_l1In ?_);(refine aw_rcall_b s_spec_l1In ?_ ?_ <;> intro hb <;> first | replace hb := inB_t hb | replace hb := inB_f hb))|((with_reducible refine g_callf n_spec_PolOk ?_);(refine aw_rcall_b (s_spec_PolOk (p := c.rule) ok hs slr_auto) ?_ ?_ <;> intro hn <;> first | replace hn := bp_true hn | replace hn := bp_false hn))|((with_reducible refine g_idx ?_);((first|refine ix ?_|refine ixi ?_|(refine ixg ?_;intro _ _)|(refine ixgi ?_;intro _ _));first|rintro _ _ _ _ _ ⟨rfl,rfl⟩ _|rintro _ _ _ _ _ ⟨_,rfl,_⟩ _|rintro _ _ _ _ _ ⟨_,_,_,_,rfl,rfl,_,_⟩ _|intro _ _ _ _ _ _ _))|(refine sx ?_;intro _ _)|((with_reducible refine g_awp ?_);simp only [g0,g1,g2]))
  all_goals first
    | exact pt ⟨by omega, by omega, by omega, by omega, by omega, by omega, by omega, by assumption⟩
    | exact pf fun k => by obtain ⟨a1, a2, a3, a4, a5, a6, a7, a8⟩ := k; first | contradiction | omega
end Go.Proofs.YtekfdoknfcedpaaGreat
