import Derived.Test.YtekfdoknfcedpaaGreatCW92
import Derived.Test.YtekfdoknfcedpaaGreatCLWorld
import Derived.Test.YtekfdoknfcedpaaGreatCMWorld
/- The law FnExactOffer, walked. -/
set_option linter.unusedSimpArgs false
set_option linter.unusedVariables false
set_option maxHeartbeats 8000000
namespace Go.Proofs.YtekfdoknfcedpaaGreat
open Go Go.Ab
section
/- laws.FnExactOffer -/
abbrev q_laws_FnExactOffer_1 (v11 : AV) (v80 : AV) (v78 : AV) (v16 : AV) (v31 : AV) (v66 : AV) : Prog := Ld 32 v11 fun a=>Cl n_laws_eqWorld [v80, a] fun a=>.op (.una .not a) fun a=>.gop a false (.mv v78) fun b=>.gop a false (.mv v16) fun c=>.gop a false (.bin 2 .neq b c) fun b=>Pk a (.bool true) b fun a=>.ite a (.fin [.val (.bool false)]) (Ld 32 v31 fun a=>Cl n_laws_heldWorld [a, .int .i64 1] fun a=>Bn .lss a (.int .i64 0) fun b=>.ite b (.fin [.val (.bool false)]) (Bn .neq a v66 fun a=>.ite a (.fin [.val (.bool false)]) (.fin [.val (.bool true)])))
abbrev q_laws_FnExactOffer_2 (v60 : AV) (v30 : AV) (v16 : AV) (v31 : AV) (v1 : AV) (v2 : AV) (x1 : AV) (v11 : AV) : Prog := .gop v60 false (.mv v30) fun a=>.gop v60 false (.mv v16) fun b=>.gop v60 false (.bin 2 .neq a b) fun a=>Pk v60 (.bool true) a fun a=>.ite a (.fin [.val (.bool false)]) (Ld 32 v31 fun a=>Cl n_laws_markWorld [a, .int .i64 1] fun a=>Ld 32 v31 fun b=>Cl n_laws_heldWorld [b, .int .i64 1] fun b=>Bn .lss b (.int .i64 0) fun c=>.ite c (.fin [.val (.bool false)]) (Bn .neq b a fun b=>.ite b (.fin [.val (.bool false)]) (Ld 32 v1 fun b=>Ld 6 v2 fun c=>.op (.alloc z32_253) fun d=>Cl n_laws_toWorld [b] fun b=>.chk (.ldn 6 v2) c (.chk (.alloc z32_253) d (Cl n_laws_toSpan [c] fun c=>.chk (.alloc z32_253) d (Cl n_impl_Offer [b, x1, c] fun b=>.chk (.alloc z32_253) d (.op (.ext b 0) fun c=>.op (.ext b 1) fun b=>.op (.st 32 d c) fun _=>Ld 32 d fun c=>q_laws_FnExactOffer_1 v11 c b v16 v31 a)))))))
abbrev q_laws_FnExactOffer_3 (v40 : AV) (v20 : AV) (v1 : AV) (v24 : AV) (v2 : AV) (v31 : AV) (v11 : AV) (v30 : AV) (v16 : AV) (x1 : AV) : Prog := .ite v40 (.fin [.val (.bool false)]) (Ld 32 v20 fun a=>Ld 32 v1 fun b=>Cl n_laws_toWorld [b] fun b=>.chk (.ldn 32 v20) a (Cl n_laws_eqWorld [a, b] fun a=>.op (.una .not a) fun a=>.ite a (.fin [.val (.bool false)]) (Ld 6 v24 fun a=>Ld 6 v2 fun b=>Cl n_laws_toSpan [b] fun b=>.chk (.ldn 6 v24) a (Cl n_laws_eqSpan [a, b] fun a=>.op (.una .not a) fun a=>.ite a (.fin [.val (.bool false)]) (Ld 32 v20 fun a=>Cl n_laws_markWorld [a, .int .i64 1] fun a=>Ld 6 v24 fun b=>Cl n_laws_markSpan [b, a] fun a=>Bn .lss a (.int .i64 0) fun a=>.gop a false (.ldn 32 v31) fun b=>.gop a false (.ldn 32 v11) fun c=>.gop a false (.call n_laws_eqWorld [b, c]) fun b=>.gop a false (.una .not b) fun b=>Pk a (.bool true) b fun a=>q_laws_FnExactOffer_2 a v30 v16 v31 v1 v2 x1 v11)))))
abbrev q_laws_FnExactOffer_4 (v20 : AV) (v19 : AV) (v2 : AV) (x1 : AV) (v11 : AV) (v16 : AV) (v1 : AV) : Prog := .op (.st 32 v20 v19) fun _=>Ld 6 v2 fun a=>Cl n_laws_toSpan [a] fun a=>.op (.alloc z6_822) fun b=>.op (.st 6 b a) fun _=>Ld 32 v20 fun a=>Ld 6 b fun c=>Cl n_impl_Offer [a, x1, c] fun a=>.op (.ext a 0) fun c=>.op (.ext a 1) fun a=>.op (.alloc z32_253) fun d=>.op (.st 32 d c) fun _=>Ld 32 d fun c=>Ld 32 v11 fun e=>Cl n_laws_eqWorld [c, e] fun c=>.op (.una .not c) fun c=>.gop c false (.mv a) fun e=>.gop c false (.mv v16) fun f=>.gop c false (.bin 2 .neq e f) fun e=>Pk c (.bool true) e fun c=>q_laws_FnExactOffer_3 c v20 v1 b v2 d v11 a v16 x1
def p_laws_FnExactOffer (x0 x1 x2 : AV) : Prog := .op (.box x0) fun a=>.op (.box x2) fun b=>Ld 32 a fun c=>Cl n_laws_szWorld [c, .int .i64 1048576] fun c=>Bn .lss c (.int .i64 0) fun d=>.ite d (.fin [.val (.bool true)]) (Ld 6 b fun d=>Cl n_laws_szSpan [d, c] fun c=>Bn .lss c (.int .i64 0) fun c=>.ite c (.fin [.val (.bool true)]) (Ld 32 a fun c=>Ld 6 b fun d=>.op (.alloc z32_253) fun e=>Cl n_laws_toWorld [c] fun c=>.chk (.ldn 6 b) d (.chk (.alloc z32_253) e (Cl n_laws_toSpan [d] fun d=>.chk (.alloc z32_253) e (Cl n_spec_Offer [c, x1, d] fun c=>.chk (.alloc z32_253) e (.op (.ext c 0) fun d=>.op (.ext c 1) fun c=>.op (.st 32 e d) fun _=>Ld 32 a fun d=>Cl n_laws_toWorld [d] fun d=>.op (.alloc z32_253) fun f=>q_laws_FnExactOffer_4 f d b x1 e c a))))))
theorem c_laws_FnExactOffer (x0 x1 x2 : AV) : CC Tryz.prog n_laws_FnExactOffer [x0, x1, x2] (p_laws_FnExactOffer x0 x1 x2) := cc Tryz.func5 [] (fun r => if r = 8 then [(0, []), (2, []), (3, []), (9, []), (1, [3, 9]), (4, [9]), (5, [9]), (6, []), (7, []), (8, []), (10, []), (11, [])] else if r = 14 then [(0, []), (1, []), (2, [0]), (3, []), (4, [])] else if r = 16 then [(0, []), (1, []), (2, [0]), (3, []), (4, [])] else if r = 31 then [(0, []), (2, []), (3, []), (9, []), (1, [3, 9]), (4, [9]), (5, [9]), (6, []), (7, []), (8, []), (10, []), (11, [])] else [])
end
theorem law_FnExactOffer {h : AH} {cs0 : List AV} {x0 : Wld} {F0 : List Nat} (r0 : Cel.rep h x0 cs0 F0) (k0 : Cel.ok x0) {n1 : Int} (k1 : rng n1) {cs9 : List AV} {x2 : Span} {F9 : List Nat} (r9 : Cel.rep h x2 cs9 F9) (k9 : Cel.ok x2) : RCalls Tryz.prog n_laws_FnExactOffer [.agg cs0, .int .i64 n1, .agg cs9] h (.bool true) := by
  have l0 : cs0.length = 32 := Cel.len r0
  obtain ⟨u9, rfl, q9⟩ := r9
  refine reader (c_laws_FnExactOffer _ _ _) (by simp only [old]) ?_
  unfold p_laws_FnExactOffer
  (repeat' first|refine vs ?_|((with_reducible refine g_stv ?_);refine aw_stv (by assumption) (by rfl) ?_)|((with_reducible refine g_ldv ?_);refine aw_ldv bk_auto (by assumption) (by decide) ?_)|((with_reducible refine g_ckv ?_);refine aw_ckv bk_auto (by assumption) (by decide) ?_)|((with_reducible refine g_chka ?_);refine w_chka bk_auto ?_)|(refine br ?_ ?_<;>intro _<;>try(exfalso;first|omega|contradiction))|((with_reducible refine g_callf n_laws_szWorld ?_);(refine aw_sz (s_laws_szWorld _ (by assumption) _ _ _ _ (rep_ext r0 ext_auto) om_auto om_auto) (fun _ => ?_) (fun _ => ?_)))|((with_reducible refine g_callf n_laws_szSpan ?_);(refine aw_sz (s_laws_szSpan _ (by assumption) _ _ _ _ ⟨_, rfl, slr_auto⟩ om_auto om_auto) (fun _ => ?_) (fun _ => ?_)))|((with_reducible refine g_idx ?_);((first|refine ix ?_|refine ixi ?_|(refine ixg ?_;intro _ _)|(refine ixgi ?_;intro _ _));first|rintro _ _ _ _ _ ⟨rfl,rfl⟩ _|rintro _ _ _ _ _ ⟨_,rfl,_⟩ _|rintro _ _ _ _ _ ⟨_,_,_,_,rfl,rfl,_,_⟩ _|intro _ _ _ _ _ _ _))|(refine sx ?_;intro _ _)|((with_reducible refine g_awp ?_);simp only [g0,g1,g2]))
  all_goals first | exact pb rfl | skip
  have hv := offerP_sz x0 n1 x2
  obtain ⟨val, hval⟩ : ∃ val, val = (offerP x0 n1 x2).1 := ⟨_, rfl⟩
  obtain ⟨bl, hbl⟩ : ∃ bl, bl = (offerP x0 n1 x2).2 := ⟨_, rfl⟩
  rw [← hval] at hv
  have hsA : Sz.sz x2 = x2.attrs.length + szs x2.attrs := rfl
  refine aw_call (s_laws_toWorld x0 (by omega) _ _ _ (rep_ext r0 ext_auto)) ?_
  rintro _ h1 ⟨e1, cs1, W1, rfl, p1, o1⟩
  have m1 := e1.1; (try simp only [push_n, upd_n] at m1)
  have l1 : cs1.length = 32 := Cel.len p1
  (repeat' first|refine vs ?_|((with_reducible refine g_stv ?_);refine aw_stv (by assumption) (by rfl) ?_)|((with_reducible refine g_ldv ?_);refine aw_ldv bk_auto (by assumption) (by decide) ?_)|((with_reducible refine g_ckv ?_);refine aw_ckv bk_auto (by assumption) (by decide) ?_)|((with_reducible refine g_chka ?_);refine w_chka bk_auto ?_)|(refine br ?_ ?_<;>intro _<;>try(exfalso;first|omega|contradiction))|((with_reducible refine g_idx ?_);((first|refine ix ?_|refine ixi ?_|(refine ixg ?_;intro _ _)|(refine ixgi ?_;intro _ _));first|rintro _ _ _ _ _ ⟨rfl,rfl⟩ _|rintro _ _ _ _ _ ⟨_,rfl,_⟩ _|rintro _ _ _ _ _ ⟨_,_,_,_,rfl,rfl,_,_⟩ _|intro _ _ _ _ _ _ _))|(refine sx ?_;intro _ _)|((with_reducible refine g_awp ?_);simp only [g0,g1,g2]))
  refine aw_call (s_laws_toSpan x2 (by omega) _ _ _ ⟨_, rfl, slr_auto⟩) ?_
  rintro _ g1 ⟨f1, _, Y1, rfl, ⟨y1, rfl, t1⟩, i1⟩
  have j1 := f1.1; (try simp only [push_n, upd_n] at j1)
  (repeat' first|refine vs ?_|((with_reducible refine g_stv ?_);refine aw_stv (by assumption) (by rfl) ?_)|((with_reducible refine g_ldv ?_);refine aw_ldv bk_auto (by assumption) (by decide) ?_)|((with_reducible refine g_ckv ?_);refine aw_ckv bk_auto (by assumption) (by decide) ?_)|((with_reducible refine g_chka ?_);refine w_chka bk_auto ?_)|(refine br ?_ ?_<;>intro _<;>try(exfalso;first|omega|contradiction))|((with_reducible refine g_idx ?_);((first|refine ix ?_|refine ixi ?_|(refine ixg ?_;intro _ _)|(refine ixgi ?_;intro _ _));first|rintro _ _ _ _ _ ⟨rfl,rfl⟩ _|rintro _ _ _ _ _ ⟨_,rfl,_⟩ _|rintro _ _ _ _ _ ⟨_,_,_,_,rfl,rfl,_,_⟩ _|intro _ _ _ _ _ _ _))|(refine sx ?_;intro _ _)|((with_reducible refine g_awp ?_);simp only [g0,g1,g2]))
  refine aw_call (s_spec_Offer k0 (by omega) (rep_ext p1 ext_auto) k9 (by omega) (t1)) ?_
  rintro _ h2 ⟨e2, cs2, W2, rfl, p2, o2⟩
  rw [← hval] at p2
  simp only [← hbl]
  have m2 := e2.1; (try simp only [push_n, upd_n] at m2)
  have l2 : cs2.length = 32 := Cel.len p2
  (repeat' first|refine vs ?_|((with_reducible refine g_stv ?_);refine aw_stv (by assumption) (by rfl) ?_)|((with_reducible refine g_ldv ?_);refine aw_ldv bk_auto (by assumption) (by decide) ?_)|((with_reducible refine g_ckv ?_);refine aw_ckv bk_auto (by assumption) (by decide) ?_)|((with_reducible refine g_chka ?_);refine w_chka bk_auto ?_)|(refine br ?_ ?_<;>intro _<;>try(exfalso;first|omega|contradiction))|((with_reducible refine g_idx ?_);((first|refine ix ?_|refine ixi ?_|(refine ixg ?_;intro _ _)|(refine ixgi ?_;intro _ _));first|rintro _ _ _ _ _ ⟨rfl,rfl⟩ _|rintro _ _ _ _ _ ⟨_,rfl,_⟩ _|rintro _ _ _ _ _ ⟨_,_,_,_,rfl,rfl,_,_⟩ _|intro _ _ _ _ _ _ _))|(refine sx ?_;intro _ _)|((with_reducible refine g_awp ?_);simp only [g0,g1,g2]))
  refine w_st (xs := cs2) rfl l2 (wr_bk (bk_auto : Bk h2 (h.n + 1 + 1) [AV.int .i64 0, AV.int .i64 0, AV.int .i64 0, AV.int .i64 0, AV.int .i64 0, AV.int .i64 0, AV.int .i64 0, AV.int .i64 0, AV.int .i64 0, AV.str ⟨#[]⟩, AV.str ⟨#[]⟩, AV.nils, AV.int .i64 0, AV.bool false, AV.nils, AV.int .i64 0, AV.int .i64 0, AV.int .i64 0, AV.int .i64 0, AV.int .i64 0, AV.nils, AV.int .i64 0, AV.int .i64 0, AV.nils, AV.nils, AV.nils, AV.nils, AV.nils, AV.nils, AV.nils, AV.nils, AV.int .i64 0] 0) (sp_full (by rw [l2]; rfl))) ?_
  have p2 : Cel.rep (h2.upd ((h.push ⟨cs0, 0, 0⟩).push ⟨x2.cs u9, 0, 0⟩).n ⟨cs2, 0, 0⟩) val cs2 W2 := rep_kp kp_upd p2 fun c hc hm => by have := (o2.2 c hc).1; have := List.mem_singleton.1 hm; simp only [push_n, upd_n] at *; omega
  (repeat' first|refine vs ?_|((with_reducible refine g_stv ?_);refine aw_stv (by assumption) (by rfl) ?_)|((with_reducible refine g_ldv ?_);refine aw_ldv bk_auto (by assumption) (by decide) ?_)|((with_reducible refine g_ckv ?_);refine aw_ckv bk_auto (by assumption) (by decide) ?_)|((with_reducible refine g_chka ?_);refine w_chka bk_auto ?_)|(refine br ?_ ?_<;>intro _<;>try(exfalso;first|omega|contradiction))|((with_reducible refine g_idx ?_);((first|refine ix ?_|refine ixi ?_|(refine ixg ?_;intro _ _)|(refine ixgi ?_;intro _ _));first|rintro _ _ _ _ _ ⟨rfl,rfl⟩ _|rintro _ _ _ _ _ ⟨_,rfl,_⟩ _|rintro _ _ _ _ _ ⟨_,_,_,_,rfl,rfl,_,_⟩ _|intro _ _ _ _ _ _ _))|(refine sx ?_;intro _ _)|((with_reducible refine g_awp ?_);simp only [g0,g1,g2]))
  refine aw_call (s_laws_toWorld x0 (by omega) _ _ _ (rep_ext r0 ext_auto)) ?_
  rintro _ h3 ⟨e3, cs3, W3, rfl, p3, o3⟩
  have m3 := e3.1; (try simp only [push_n, upd_n] at m3)
  have l3 : cs3.length = 32 := Cel.len p3
  (repeat' first|refine vs ?_|((with_reducible refine g_stv ?_);refine aw_stv (by assumption) (by rfl) ?_)|((with_reducible refine g_ldv ?_);refine aw_ldv bk_auto (by assumption) (by decide) ?_)|((with_reducible refine g_ckv ?_);refine aw_ckv bk_auto (by assumption) (by decide) ?_)|((with_reducible refine g_chka ?_);refine w_chka bk_auto ?_)|(refine br ?_ ?_<;>intro _<;>try(exfalso;first|omega|contradiction))|((with_reducible refine g_idx ?_);((first|refine ix ?_|refine ixi ?_|(refine ixg ?_;intro _ _)|(refine ixgi ?_;intro _ _));first|rintro _ _ _ _ _ ⟨rfl,rfl⟩ _|rintro _ _ _ _ _ ⟨_,rfl,_⟩ _|rintro _ _ _ _ _ ⟨_,_,_,_,rfl,rfl,_,_⟩ _|intro _ _ _ _ _ _ _))|(refine sx ?_;intro _ _)|((with_reducible refine g_awp ?_);simp only [g0,g1,g2]))
  refine aw_call (s_laws_toSpan x2 (by omega) _ _ _ ⟨_, rfl, slr_auto⟩) ?_
  rintro _ g3 ⟨f3, _, Y3, rfl, ⟨y3, rfl, t3⟩, i3⟩
  have j3 := f3.1; (try simp only [push_n, upd_n] at j3)
  (repeat' first|refine vs ?_|((with_reducible refine g_stv ?_);refine aw_stv (by assumption) (by rfl) ?_)|((with_reducible refine g_ldv ?_);refine aw_ldv bk_auto (by assumption) (by decide) ?_)|((with_reducible refine g_ckv ?_);refine aw_ckv bk_auto (by assumption) (by decide) ?_)|((with_reducible refine g_chka ?_);refine w_chka bk_auto ?_)|(refine br ?_ ?_<;>intro _<;>try(exfalso;first|omega|contradiction))|((with_reducible refine g_idx ?_);((first|refine ix ?_|refine ixi ?_|(refine ixg ?_;intro _ _)|(refine ixgi ?_;intro _ _));first|rintro _ _ _ _ _ ⟨rfl,rfl⟩ _|rintro _ _ _ _ _ ⟨_,rfl,_⟩ _|rintro _ _ _ _ _ ⟨_,_,_,_,rfl,rfl,_,_⟩ _|intro _ _ _ _ _ _ _))|(refine sx ?_;intro _ _)|((with_reducible refine g_awp ?_);simp only [g0,g1,g2]))
  refine aw_call (s_impl_Offer k0 (by omega) (rep_ext p3 ext_auto) k9 (by omega) ((slr_auto : SlRep _ y3 x2.attrs Y3))) ?_
  rintro _ h4 ⟨e4, cs4, W4, rfl, p4, o4⟩
  rw [← hval] at p4
  simp only [← hbl]
  have m4 := e4.1; (try simp only [push_n, upd_n] at m4)
  have l4 : cs4.length = 32 := Cel.len p4
  (repeat' first|refine vs ?_|((with_reducible refine g_stv ?_);refine aw_stv (by assumption) (by rfl) ?_)|((with_reducible refine g_ldv ?_);refine aw_ldv bk_auto (by assumption) (by decide) ?_)|((with_reducible refine g_ckv ?_);refine aw_ckv bk_auto (by assumption) (by decide) ?_)|((with_reducible refine g_chka ?_);refine w_chka bk_auto ?_)|(refine br ?_ ?_<;>intro _<;>try(exfalso;first|omega|contradiction))|((with_reducible refine g_idx ?_);((first|refine ix ?_|refine ixi ?_|(refine ixg ?_;intro _ _)|(refine ixgi ?_;intro _ _));first|rintro _ _ _ _ _ ⟨rfl,rfl⟩ _|rintro _ _ _ _ _ ⟨_,rfl,_⟩ _|rintro _ _ _ _ _ ⟨_,_,_,_,rfl,rfl,_,_⟩ _|intro _ _ _ _ _ _ _))|(refine sx ?_;intro _ _)|((with_reducible refine g_awp ?_);simp only [g0,g1,g2]))
  refine aw_rcall (s_laws_eqWorld _ _ _ _ _ _ (rep_ext p4 ext_auto) (rep_ext p2 ext_auto)) ?_
  (repeat' first|refine vs ?_|((with_reducible refine g_stv ?_);refine aw_stv (by assumption) (by rfl) ?_)|((with_reducible refine g_ldv ?_);refine aw_ldv bk_auto (by assumption) (by decide) ?_)|((with_reducible refine g_ckv ?_);refine aw_ckv bk_auto (by assumption) (by decide) ?_)|((with_reducible refine g_chka ?_);refine w_chka bk_auto ?_)|(refine br ?_ ?_<;>intro _<;>try(exfalso;first|omega|contradiction))|((with_reducible refine g_idx ?_);((first|refine ix ?_|refine ixi ?_|(refine ixg ?_;intro _ _)|(refine ixgi ?_;intro _ _));first|rintro _ _ _ _ _ ⟨rfl,rfl⟩ _|rintro _ _ _ _ _ ⟨_,rfl,_⟩ _|rintro _ _ _ _ _ ⟨_,_,_,_,rfl,rfl,_,_⟩ _|intro _ _ _ _ _ _ _))|(refine sx ?_;intro _ _)|((with_reducible refine g_awp ?_);simp only [g0,g1,g2]))
  refine aw_call (s_laws_toWorld x0 (by omega) _ _ _ (rep_ext r0 ext_auto)) ?_
  rintro _ h5 ⟨e5, cs5, W5, rfl, p5, o5⟩
  have m5 := e5.1; (try simp only [push_n, upd_n] at m5)
  have l5 : cs5.length = 32 := Cel.len p5
  refine aw_ckv (b := h3.n) bk_auto l3 (by decide) ?_
  (repeat' first|refine vs ?_|((with_reducible refine g_stv ?_);refine aw_stv (by assumption) (by rfl) ?_)|((with_reducible refine g_ldv ?_);refine aw_ldv bk_auto (by assumption) (by decide) ?_)|((with_reducible refine g_ckv ?_);refine aw_ckv bk_auto (by assumption) (by decide) ?_)|((with_reducible refine g_chka ?_);refine w_chka bk_auto ?_)|(refine br ?_ ?_<;>intro _<;>try(exfalso;first|omega|contradiction))|((with_reducible refine g_idx ?_);((first|refine ix ?_|refine ixi ?_|(refine ixg ?_;intro _ _)|(refine ixgi ?_;intro _ _));first|rintro _ _ _ _ _ ⟨rfl,rfl⟩ _|rintro _ _ _ _ _ ⟨_,rfl,_⟩ _|rintro _ _ _ _ _ ⟨_,_,_,_,rfl,rfl,_,_⟩ _|intro _ _ _ _ _ _ _))|(refine sx ?_;intro _ _)|((with_reducible refine g_awp ?_);simp only [g0,g1,g2]))
  refine aw_rcall (s_laws_eqWorld _ _ _ _ _ _ (rep_ext p3 ext_auto) (rep_ext p5 ext_auto)) ?_
  (repeat' first|refine vs ?_|((with_reducible refine g_stv ?_);refine aw_stv (by assumption) (by rfl) ?_)|((with_reducible refine g_ldv ?_);refine aw_ldv bk_auto (by assumption) (by decide) ?_)|((with_reducible refine g_ckv ?_);refine aw_ckv bk_auto (by assumption) (by decide) ?_)|((with_reducible refine g_chka ?_);refine w_chka bk_auto ?_)|(refine br ?_ ?_<;>intro _<;>try(exfalso;first|omega|contradiction))|((with_reducible refine g_idx ?_);((first|refine ix ?_|refine ixi ?_|(refine ixg ?_;intro _ _)|(refine ixgi ?_;intro _ _));first|rintro _ _ _ _ _ ⟨rfl,rfl⟩ _|rintro _ _ _ _ _ ⟨_,rfl,_⟩ _|rintro _ _ _ _ _ ⟨_,_,_,_,rfl,rfl,_,_⟩ _|intro _ _ _ _ _ _ _))|(refine sx ?_;intro _ _)|((with_reducible refine g_awp ?_);simp only [g0,g1,g2]))
  refine aw_call (s_laws_toSpan x2 (by omega) _ _ _ ⟨_, rfl, slr_auto⟩) ?_
  rintro _ g5 ⟨f5, _, Y5, rfl, ⟨y5, rfl, t5⟩, i5⟩
  have j5 := f5.1; (try simp only [push_n, upd_n] at j5)
  (repeat' first|refine vs ?_|((with_reducible refine g_stv ?_);refine aw_stv (by assumption) (by rfl) ?_)|((with_reducible refine g_ldv ?_);refine aw_ldv bk_auto (by assumption) (by decide) ?_)|((with_reducible refine g_ckv ?_);refine aw_ckv bk_auto (by assumption) (by decide) ?_)|((with_reducible refine g_chka ?_);refine w_chka bk_auto ?_)|(refine br ?_ ?_<;>intro _<;>try(exfalso;first|omega|contradiction))|((with_reducible refine g_idx ?_);((first|refine ix ?_|refine ixi ?_|(refine ixg ?_;intro _ _)|(refine ixgi ?_;intro _ _));first|rintro _ _ _ _ _ ⟨rfl,rfl⟩ _|rintro _ _ _ _ _ ⟨_,rfl,_⟩ _|rintro _ _ _ _ _ ⟨_,_,_,_,rfl,rfl,_,_⟩ _|intro _ _ _ _ _ _ _))|(refine sx ?_;intro _ _)|((with_reducible refine g_awp ?_);simp only [g0,g1,g2]))
  refine aw_rcall (s_laws_eqSpan _ _ _ _ _ _ ⟨_, rfl, (slr_auto : SlRep _ y3 x2.attrs Y3)⟩ ⟨_, rfl, (slr_auto : SlRep _ y5 x2.attrs Y5)⟩) ?_
  (repeat' first|refine vs ?_|((with_reducible refine g_stv ?_);refine aw_stv (by assumption) (by rfl) ?_)|((with_reducible refine g_ldv ?_);refine aw_ldv bk_auto (by assumption) (by decide) ?_)|((with_reducible refine g_ckv ?_);refine aw_ckv bk_auto (by assumption) (by decide) ?_)|((with_reducible refine g_chka ?_);refine w_chka bk_auto ?_)|(refine br ?_ ?_<;>intro _<;>try(exfalso;first|omega|contradiction))|((with_reducible refine g_idx ?_);((first|refine ix ?_|refine ixi ?_|(refine ixg ?_;intro _ _)|(refine ixgi ?_;intro _ _));first|rintro _ _ _ _ _ ⟨rfl,rfl⟩ _|rintro _ _ _ _ _ ⟨_,rfl,_⟩ _|rintro _ _ _ _ _ ⟨_,_,_,_,rfl,rfl,_,_⟩ _|intro _ _ _ _ _ _ _))|(refine sx ?_;intro _ _)|((with_reducible refine g_awp ?_);simp only [g0,g1,g2]))
  have lt0 := Cel.lt r0
  have lt2 := Cel.lt p2
  have lt3 := Cel.lt p3
  have lt4 := Cel.lt p4
  have lt9 := q9.lt
  have ltY := t3.lt
  have c6 := mkWorldN_b 1 x0
  have u6 := mkWorldN_up 1 x0
  refine aw_call (s_laws_markWorld (x := x0) (F := W3) (n := 0) (rep_ext p3 ext_auto) ((ol_ext1 ext_auto ⟨o3, Cel.lt p3⟩).1.mono (Nat.zero_le _) fun _ _ => rfl) om_auto (by omega)) ?_
  rintro _ h6 ⟨rfl, y6, q6, -⟩
  have m6 := y6.1
  have d6_0 : ∀ c ∈ F0, c ∉ W3 := fun c hc hc' => by have := lt0 c hc; have := (o3.2 c hc').1; simp only [push_n, upd_n] at *; omega
  have z6_0 : Cel.rep h6 x0 cs0 F0 := rep_kp y6 (rep_ext r0 ext_auto) d6_0
  have d6_2 : ∀ c ∈ W2, c ∉ W3 := fun c hc hc' => by have := lt2 c hc; have := (o3.2 c hc').1; simp only [push_n, upd_n] at *; omega
  have z6_2 : Cel.rep h6 val cs2 W2 := rep_kp y6 (rep_ext p2 ext_auto) d6_2
  have bx6_0 : Bk h6 h.n cs0 0 := bk_kp1 y6 bk_auto (fun hm => by have := (o3.2 _ hm).1; simp only [push_n, upd_n] at *; omega)
  have bx6_9 : Bk h6 (h.push ⟨cs0, 0, 0⟩).n (x2.cs u9) 0 := bk_kp1 y6 bk_auto (fun hm => by have := (o3.2 _ hm).1; simp only [push_n, upd_n] at *; omega)
  have bx6_2 : Bk h6 (h.n + 1 + 1) cs2 0 := bk_kp1 y6 bk_auto (fun hm => by have := (o3.2 _ hm).1; simp only [push_n, upd_n] at *; omega)
  have bx6_y : Bk h6 g3.n [.int .i64 x2.trace, .int .i64 x2.id, .int .i64 x2.start, .int .i64 x2.fin, .bool x2.err, y3] 0 := bk_kp1 y6 bk_auto (fun hm => by have := lt3 _ hm; simp only [push_n, upd_n] at *; omega)
  have d6_4 : ∀ c ∈ W4, c ∉ W3 := fun c hc hc' => by have := (o4.2 c hc).1; have := lt3 c hc'; simp only [push_n, upd_n] at *; omega
  have z6_4 : Cel.rep h6 val cs4 W4 := rep_kp y6 (rep_ext p4 ext_auto) d6_4
  have oz6_4 : Own 0 h6 W4 := (ol_kp1 y6 (ol_ext1 ext_auto ⟨o4, Cel.lt p4⟩) d6_4).1.mono (Nat.zero_le _) fun _ _ => rfl
  have bx6_4 : Bk h6 h4.n cs4 0 := bk_kp1 y6 bk_auto (fun hm => by have := lt3 _ hm; simp only [push_n, upd_n] at *; omega)
  have d6_9 : ∀ c ∈ F9, c ∉ W3 := fun c hc hc' => by have := lt9 c hc; have := (o3.2 c hc').1; simp only [push_n, upd_n] at *; omega
  have z6_9 : SlRep h6 u9 x2.attrs F9 := slr_kp1 y6 (q9.ext ext_auto) d6_9
  have d6_y : ∀ c ∈ Y3, c ∉ W3 := fun c hc hc' => by have := (i3.2 c hc).1; have := lt3 c hc'; simp only [push_n, upd_n] at *; omega
  have z6_y : SlRep h6 y3 x2.attrs Y3 := slr_kp1 y6 (t3.ext ext_auto) d6_y
  have oy6 : Own 0 h6 Y3 := (ol_kp1 y6 (ol_ext1 ext_auto ⟨i3, t3.lt⟩) d6_y).1.mono (Nat.zero_le _) fun _ _ => rfl
  (repeat' first|refine vs ?_|((with_reducible refine g_stv ?_);refine aw_stv (by assumption) (by rfl) ?_)|((with_reducible refine g_ldv ?_);refine aw_ldv bk_auto (by assumption) (by decide) ?_)|((with_reducible refine g_ckv ?_);refine aw_ckv bk_auto (by assumption) (by decide) ?_)|((with_reducible refine g_chka ?_);refine w_chka bk_auto ?_)|(refine br ?_ ?_<;>intro _<;>try(exfalso;first|omega|contradiction))|((with_reducible refine g_idx ?_);((first|refine ix ?_|refine ixi ?_|(refine ixg ?_;intro _ _)|(refine ixgi ?_;intro _ _));first|rintro _ _ _ _ _ ⟨rfl,rfl⟩ _|rintro _ _ _ _ _ ⟨_,rfl,_⟩ _|rintro _ _ _ _ _ ⟨_,_,_,_,rfl,rfl,_,_⟩ _|intro _ _ _ _ _ _ _))|(refine sx ?_;intro _ _)|((with_reducible refine g_awp ?_);simp only [g0,g1,g2]))
  have c7 := mks_cnt32 x2.attrs (mkWorldN 1 x0)
  have u7 := mks_upF x2.attrs (mkWorldN 1 x0)
  refine aw_call (s_laws_markSpan (n := 0) z6_y oy6 (by omega) (by omega)) ?_
  rintro _ g7 ⟨rfl, yy7, -, -⟩
  have mm7 := yy7.1
  clear oy6
  have s7_0 : ∀ c ∈ F0, c ∉ Y3 := fun c hc hc' => by have := lt0 c hc; have := (i3.2 c hc').1; simp only [push_n, upd_n] at *; omega
  have z6_0 : Cel.rep g7 x0 cs0 F0 := rep_kp yy7 z6_0 s7_0
  have s7_2 : ∀ c ∈ W2, c ∉ Y3 := fun c hc hc' => by have := lt2 c hc; have := (i3.2 c hc').1; simp only [push_n, upd_n] at *; omega
  have z6_2 : Cel.rep g7 val cs2 W2 := rep_kp yy7 z6_2 s7_2
  have s7_4 : ∀ c ∈ W4, c ∉ Y3 := fun c hc hc' => by have := (o4.2 c hc).1; have := ltY c hc'; simp only [push_n, upd_n] at *; omega
  replace oz6_4 : Own 0 g7 W4 := (ol_kp1 yy7 ⟨oz6_4, Cel.lt z6_4⟩ s7_4).1
  have z6_4 : Cel.rep g7 val cs4 W4 := rep_kp yy7 z6_4 s7_4
  have s7_9 : ∀ c ∈ F9, c ∉ Y3 := fun c hc hc' => by have := lt9 c hc; have := (i3.2 c hc').1; simp only [push_n, upd_n] at *; omega
  have z6_9 : SlRep g7 u9 x2.attrs F9 := slr_kp1 yy7 z6_9 s7_9
  have bx6_0 : Bk g7 h.n cs0 0 := bk_kp1 yy7 bx6_0 (fun hm => by have := (i3.2 _ hm).1; simp only [push_n, upd_n] at *; omega)
  have bx6_9 : Bk g7 (h.push ⟨cs0, 0, 0⟩).n (x2.cs u9) 0 := bk_kp1 yy7 bx6_9 (fun hm => by have := (i3.2 _ hm).1; simp only [push_n, upd_n] at *; omega)
  have bx6_2 : Bk g7 (h.n + 1 + 1) cs2 0 := bk_kp1 yy7 bx6_2 (fun hm => by have := (i3.2 _ hm).1; simp only [push_n, upd_n] at *; omega)
  have bx6_4 : Bk g7 h4.n cs4 0 := bk_kp1 yy7 bx6_4 (fun hm => by have := ltY _ hm; simp only [push_n, upd_n] at *; omega)
  (repeat' first|refine vs ?_|((with_reducible refine g_stv ?_);refine aw_stv (by assumption) (by rfl) ?_)|((with_reducible refine g_ldv ?_);refine aw_ldv bk_auto (by assumption) (by decide) ?_)|((with_reducible refine g_ckv ?_);refine aw_ckv bk_auto (by assumption) (by decide) ?_)|((with_reducible refine g_chka ?_);refine w_chka bk_auto ?_)|(refine br ?_ ?_<;>intro _<;>try(exfalso;first|omega|contradiction))|((with_reducible refine g_idx ?_);((first|refine ix ?_|refine ixi ?_|(refine ixg ?_;intro _ _)|(refine ixgi ?_;intro _ _));first|rintro _ _ _ _ _ ⟨rfl,rfl⟩ _|rintro _ _ _ _ _ ⟨_,rfl,_⟩ _|rintro _ _ _ _ _ ⟨_,_,_,_,rfl,rfl,_,_⟩ _|intro _ _ _ _ _ _ _))|(refine sx ?_;intro _ _)|((with_reducible refine g_awp ?_);simp only [g0,g1,g2]))
  refine aw_rcall (s_laws_eqWorld _ _ _ _ _ _ z6_4 z6_2) ?_
  (repeat' first|refine vs ?_|((with_reducible refine g_stv ?_);refine aw_stv (by assumption) (by rfl) ?_)|((with_reducible refine g_ldv ?_);refine aw_ldv bk_auto (by assumption) (by decide) ?_)|((with_reducible refine g_ckv ?_);refine aw_ckv bk_auto (by assumption) (by decide) ?_)|((with_reducible refine g_chka ?_);refine w_chka bk_auto ?_)|(refine br ?_ ?_<;>intro _<;>try(exfalso;first|omega|contradiction))|((with_reducible refine g_idx ?_);((first|refine ix ?_|refine ixi ?_|(refine ixg ?_;intro _ _)|(refine ixgi ?_;intro _ _));first|rintro _ _ _ _ _ ⟨rfl,rfl⟩ _|rintro _ _ _ _ _ ⟨_,rfl,_⟩ _|rintro _ _ _ _ _ ⟨_,_,_,_,rfl,rfl,_,_⟩ _|intro _ _ _ _ _ _ _))|(refine sx ?_;intro _ _)|((with_reducible refine g_awp ?_);simp only [g0,g1,g2]))
  have c8 := mkWorldN_b 1 val
  have u8 := mkWorldN_up 1 val
  refine aw_call (s_laws_markWorld (n := 0) z6_4 oz6_4 om_auto (by omega)) ?_
  rintro _ h7 ⟨rfl, y7, q7, -⟩
  clear oz6_4
  have m7 := y7.1
  have d7_0 : ∀ c ∈ F0, c ∉ W4 := fun c hc hc' => by have := lt0 c hc; have := (o4.2 c hc').1; simp only [push_n, upd_n] at *; omega
  have z7_0 : Cel.rep h7 x0 cs0 F0 := rep_kp y7 z6_0 d7_0
  have d7_2 : ∀ c ∈ W2, c ∉ W4 := fun c hc hc' => by have := lt2 c hc; have := (o4.2 c hc').1; simp only [push_n, upd_n] at *; omega
  have z7_2 : Cel.rep h7 val cs2 W2 := rep_kp y7 z6_2 d7_2
  have d7_9 : ∀ c ∈ F9, c ∉ W4 := fun c hc hc' => by have := lt9 c hc; have := (o4.2 c hc').1; simp only [push_n, upd_n] at *; omega
  have z7_9 : SlRep h7 u9 x2.attrs F9 := slr_kp1 y7 z6_9 d7_9
  have bx7_0 : Bk h7 h.n cs0 0 := bk_kp1 y7 bx6_0 (fun hm => by have := (o4.2 _ hm).1; simp only [push_n, upd_n] at *; omega)
  have bx7_9 : Bk h7 (h.push ⟨cs0, 0, 0⟩).n (x2.cs u9) 0 := bk_kp1 y7 bx6_9 (fun hm => by have := (o4.2 _ hm).1; simp only [push_n, upd_n] at *; omega)
  have bx7_2 : Bk h7 (h.n + 1 + 1) cs2 0 := bk_kp1 y7 bx6_2 (fun hm => by have := (o4.2 _ hm).1; simp only [push_n, upd_n] at *; omega)
  have bx7_4 : Bk h7 h4.n cs4 0 := bk_kp1 y7 bx6_4 (fun hm => by have := lt4 _ hm; omega)
  (repeat' first|refine vs ?_|((with_reducible refine g_stv ?_);refine aw_stv (by assumption) (by rfl) ?_)|((with_reducible refine g_ldv ?_);refine aw_ldv bk_auto (by assumption) (by decide) ?_)|((with_reducible refine g_ckv ?_);refine aw_ckv bk_auto (by assumption) (by decide) ?_)|((with_reducible refine g_chka ?_);refine w_chka bk_auto ?_)|(refine br ?_ ?_<;>intro _<;>try(exfalso;first|omega|contradiction))|((with_reducible refine g_idx ?_);((first|refine ix ?_|refine ixi ?_|(refine ixg ?_;intro _ _)|(refine ixgi ?_;intro _ _));first|rintro _ _ _ _ _ ⟨rfl,rfl⟩ _|rintro _ _ _ _ _ ⟨_,rfl,_⟩ _|rintro _ _ _ _ _ ⟨_,_,_,_,rfl,rfl,_,_⟩ _|intro _ _ _ _ _ _ _))|(refine sx ?_;intro _ _)|((with_reducible refine g_awp ?_);simp only [g0,g1,g2]))
  refine aw_rcall (s_laws_heldWorld (x := val) (m := 1) q7 om_auto (by omega)) ?_
  (repeat' first|refine vs ?_|((with_reducible refine g_stv ?_);refine aw_stv (by assumption) (by rfl) ?_)|((with_reducible refine g_ldv ?_);refine aw_ldv bk_auto (by assumption) (by decide) ?_)|((with_reducible refine g_ckv ?_);refine aw_ckv bk_auto (by assumption) (by decide) ?_)|((with_reducible refine g_chka ?_);refine w_chka bk_auto ?_)|(refine br ?_ ?_<;>intro _<;>try(exfalso;first|omega|contradiction))|((with_reducible refine g_idx ?_);((first|refine ix ?_|refine ixi ?_|(refine ixg ?_;intro _ _)|(refine ixgi ?_;intro _ _));first|rintro _ _ _ _ _ ⟨rfl,rfl⟩ _|rintro _ _ _ _ _ ⟨_,rfl,_⟩ _|rintro _ _ _ _ _ ⟨_,_,_,_,rfl,rfl,_,_⟩ _|intro _ _ _ _ _ _ _))|(refine sx ?_;intro _ _)|((with_reducible refine g_awp ?_);simp only [g0,g1,g2]))
  refine aw_call (s_laws_toWorld x0 (by omega) _ _ _ (rep_ext z7_0 ext_auto)) ?_
  rintro _ h8 ⟨e8, cs8, W8, rfl, p8, o8⟩
  have m8 := e8.1; (try simp only [push_n, upd_n] at m8)
  have l8 : cs8.length = 32 := Cel.len p8
  (repeat' first|refine vs ?_|((with_reducible refine g_stv ?_);refine aw_stv (by assumption) (by rfl) ?_)|((with_reducible refine g_ldv ?_);refine aw_ldv bk_auto (by assumption) (by decide) ?_)|((with_reducible refine g_ckv ?_);refine aw_ckv bk_auto (by assumption) (by decide) ?_)|((with_reducible refine g_chka ?_);refine w_chka bk_auto ?_)|(refine br ?_ ?_<;>intro _<;>try(exfalso;first|omega|contradiction))|((with_reducible refine g_idx ?_);((first|refine ix ?_|refine ixi ?_|(refine ixg ?_;intro _ _)|(refine ixgi ?_;intro _ _));first|rintro _ _ _ _ _ ⟨rfl,rfl⟩ _|rintro _ _ _ _ _ ⟨_,rfl,_⟩ _|rintro _ _ _ _ _ ⟨_,_,_,_,rfl,rfl,_,_⟩ _|intro _ _ _ _ _ _ _))|(refine sx ?_;intro _ _)|((with_reducible refine g_awp ?_);simp only [g0,g1,g2]))
  refine aw_call (s_laws_toSpan x2 (by omega) _ _ _ ⟨_, rfl, (slr_auto : SlRep _ u9 x2.attrs F9)⟩) ?_
  rintro _ g8 ⟨f8, _, Y8, rfl, ⟨y8, rfl, t8⟩, i8⟩
  have j8 := f8.1; (try simp only [push_n, upd_n] at j8)
  (repeat' first|refine vs ?_|((with_reducible refine g_stv ?_);refine aw_stv (by assumption) (by rfl) ?_)|((with_reducible refine g_ldv ?_);refine aw_ldv bk_auto (by assumption) (by decide) ?_)|((with_reducible refine g_ckv ?_);refine aw_ckv bk_auto (by assumption) (by decide) ?_)|((with_reducible refine g_chka ?_);refine w_chka bk_auto ?_)|(refine br ?_ ?_<;>intro _<;>try(exfalso;first|omega|contradiction))|((with_reducible refine g_idx ?_);((first|refine ix ?_|refine ixi ?_|(refine ixg ?_;intro _ _)|(refine ixgi ?_;intro _ _));first|rintro _ _ _ _ _ ⟨rfl,rfl⟩ _|rintro _ _ _ _ _ ⟨_,rfl,_⟩ _|rintro _ _ _ _ _ ⟨_,_,_,_,rfl,rfl,_,_⟩ _|intro _ _ _ _ _ _ _))|(refine sx ?_;intro _ _)|((with_reducible refine g_awp ?_);simp only [g0,g1,g2]))
  refine aw_call (s_impl_Offer k0 (by omega) (rep_ext p8 ext_auto) k9 (by omega) (t8)) ?_
  rintro _ h9 ⟨e9, cs9, W9, rfl, p9, o9⟩
  rw [← hval] at p9
  simp only [← hbl]
  have m9 := e9.1; (try simp only [push_n, upd_n] at m9)
  have l9 : cs9.length = 32 := Cel.len p9
  (repeat' first|refine vs ?_|((with_reducible refine g_stv ?_);refine aw_stv (by assumption) (by rfl) ?_)|((with_reducible refine g_ldv ?_);refine aw_ldv bk_auto (by assumption) (by decide) ?_)|((with_reducible refine g_ckv ?_);refine aw_ckv bk_auto (by assumption) (by decide) ?_)|((with_reducible refine g_chka ?_);refine w_chka bk_auto ?_)|(refine br ?_ ?_<;>intro _<;>try(exfalso;first|omega|contradiction))|((with_reducible refine g_idx ?_);((first|refine ix ?_|refine ixi ?_|(refine ixg ?_;intro _ _)|(refine ixgi ?_;intro _ _));first|rintro _ _ _ _ _ ⟨rfl,rfl⟩ _|rintro _ _ _ _ _ ⟨_,rfl,_⟩ _|rintro _ _ _ _ _ ⟨_,_,_,_,rfl,rfl,_,_⟩ _|intro _ _ _ _ _ _ _))|(refine sx ?_;intro _ _)|((with_reducible refine g_awp ?_);simp only [g0,g1,g2]))
  refine w_st (xs := cs9) rfl l9 (wr_bk (bk_auto : Bk h9 h7.n [AV.int .i64 0, AV.int .i64 0, AV.int .i64 0, AV.int .i64 0, AV.int .i64 0, AV.int .i64 0, AV.int .i64 0, AV.int .i64 0, AV.int .i64 0, AV.str ⟨#[]⟩, AV.str ⟨#[]⟩, AV.nils, AV.int .i64 0, AV.bool false, AV.nils, AV.int .i64 0, AV.int .i64 0, AV.int .i64 0, AV.int .i64 0, AV.int .i64 0, AV.nils, AV.int .i64 0, AV.int .i64 0, AV.nils, AV.nils, AV.nils, AV.nils, AV.nils, AV.nils, AV.nils, AV.nils, AV.int .i64 0] 0) (sp_full (by rw [l9]; rfl))) ?_
  have p9 : Cel.rep (h9.upd h7.n ⟨cs9, 0, 0⟩) val cs9 W9 := rep_kp kp_upd p9 fun c hc hm => by have := (o9.2 c hc).1; have := List.mem_singleton.1 hm; simp only [push_n, upd_n] at *; omega
  (repeat' first|refine vs ?_|((with_reducible refine g_stv ?_);refine aw_stv (by assumption) (by rfl) ?_)|((with_reducible refine g_ldv ?_);refine aw_ldv bk_auto (by assumption) (by decide) ?_)|((with_reducible refine g_ckv ?_);refine aw_ckv bk_auto (by assumption) (by decide) ?_)|((with_reducible refine g_chka ?_);refine w_chka bk_auto ?_)|(refine br ?_ ?_<;>intro _<;>try(exfalso;first|omega|contradiction))|((with_reducible refine g_idx ?_);((first|refine ix ?_|refine ixi ?_|(refine ixg ?_;intro _ _)|(refine ixgi ?_;intro _ _));first|rintro _ _ _ _ _ ⟨rfl,rfl⟩ _|rintro _ _ _ _ _ ⟨_,rfl,_⟩ _|rintro _ _ _ _ _ ⟨_,_,_,_,rfl,rfl,_,_⟩ _|intro _ _ _ _ _ _ _))|(refine sx ?_;intro _ _)|((with_reducible refine g_awp ?_);simp only [g0,g1,g2]))
  refine aw_rcall (s_laws_eqWorld _ _ _ _ _ _ (rep_ext p9 ext_auto) (rep_ext z7_2 ext_auto)) ?_
  (repeat' first|refine vs ?_|((with_reducible refine g_stv ?_);refine aw_stv (by assumption) (by rfl) ?_)|((with_reducible refine g_ldv ?_);refine aw_ldv bk_auto (by assumption) (by decide) ?_)|((with_reducible refine g_ckv ?_);refine aw_ckv bk_auto (by assumption) (by decide) ?_)|((with_reducible refine g_chka ?_);refine w_chka bk_auto ?_)|(refine br ?_ ?_<;>intro _<;>try(exfalso;first|omega|contradiction))|((with_reducible refine g_idx ?_);((first|refine ix ?_|refine ixi ?_|(refine ixg ?_;intro _ _)|(refine ixgi ?_;intro _ _));first|rintro _ _ _ _ _ ⟨rfl,rfl⟩ _|rintro _ _ _ _ _ ⟨_,rfl,_⟩ _|rintro _ _ _ _ _ ⟨_,_,_,_,rfl,rfl,_,_⟩ _|intro _ _ _ _ _ _ _))|(refine sx ?_;intro _ _)|((with_reducible refine g_awp ?_);simp only [g0,g1,g2]))
  refine aw_rcall (s_laws_heldWorld (x := val) (m := 1) (rep_ext q7 ext_auto) om_auto (by omega)) ?_
  (repeat' first|refine vs ?_|((with_reducible refine g_stv ?_);refine aw_stv (by assumption) (by rfl) ?_)|((with_reducible refine g_ldv ?_);refine aw_ldv bk_auto (by assumption) (by decide) ?_)|((with_reducible refine g_ckv ?_);refine aw_ckv bk_auto (by assumption) (by decide) ?_)|((with_reducible refine g_chka ?_);refine w_chka bk_auto ?_)|(refine br ?_ ?_<;>intro _<;>try(exfalso;first|omega|contradiction))|((with_reducible refine g_idx ?_);((first|refine ix ?_|refine ixi ?_|(refine ixg ?_;intro _ _)|(refine ixgi ?_;intro _ _));first|rintro _ _ _ _ _ ⟨rfl,rfl⟩ _|rintro _ _ _ _ _ ⟨_,rfl,_⟩ _|rintro _ _ _ _ _ ⟨_,_,_,_,rfl,rfl,_,_⟩ _|intro _ _ _ _ _ _ _))|(refine sx ?_;intro _ _)|((with_reducible refine g_awp ?_);simp only [g0,g1,g2]))
  exact pb rfl
end Go.Proofs.YtekfdoknfcedpaaGreat
