
/- Lists of attributes; things. -/
import Derived.Test.YtienckhjfcplcaaW2
set_option linter.unusedSimpArgs false
set_option linter.unusedVariables false
namespace Go.Proofs.Ytienckhjfcplcaa
open Go Go.Ab
section
/- impl.AttrsOk -/
def p_impl_AttrsOk (x0 : AV) : Prog := .op (.len 0 x0) fun v => .loop [AV.int .i64 0] (fun vs => .op (.bin 0 .lss (g vs 0) v) fun v => .ite v (.op (.idx 4 x0 (g vs 0)) fun v => .op (.ldn 4 v) fun v => .op (.alloc [AV.str ⟨#[]⟩, AV.bool false, AV.int .i64 0, AV.str ⟨#[]⟩]) fun v_1 => .op (.st 4 v_1 v) fun v => .op (.ldn 4 v_1) fun v => .op (.call n_impl_AttrOk [v]) fun v => .op (.una .not v) fun v => .gop v false (.mv (g vs 0)) fun v_2 => .gop v false (.bin 0 .gtr v_2 (AV.int .i64 0)) fun v_3 => .gop v false (.mv v_3) fun v_4 => .gop v_4 true (.mv x0) fun v_5 => .gop v_4 true (.mv (g vs 0)) fun v_6 => .gop v_4 true (.bin 0 .sub v_6 (AV.int .i64 1)) fun v_7 => .gop v_4 true (.idx 4 v_5 v_7) fun v_8 => .gop v_4 true (.fad 0 v_8) fun v_9 => .gop v_4 true (.ld1 v_9) fun v_10 => .gop v_4 true (.fad 0 v_1) fun v_11 => .gop v_4 true (.ld1 v_11) fun v_12 => .gop v_4 true (.bin 1 .geq v_10 v_12) fun v_13 => .gop v false (.pick v_4 v_13 (AV.bool false)) fun v_14 => .op (.pick v (AV.bool true) v_14) fun v => .ite v (.fin [.val (AV.bool false)]) (.op (.bin 0 .add (g vs 0) (AV.int .i64 1)) fun v => .leaf 0 [v])) (.leaf 2 [g vs 0])) fun t vs => tsel t 1 (.leaf 1 vs) (tsel t 2 (.op (.len 0 x0) fun v => .op (.bin 0 .leq v (AV.int .i64 4)) fun v => .fin [.val v]) .bad)
theorem c_impl_AttrsOk (x0 : AV) {h : AH} {R : AV → AH → Prop} (g : (p_impl_AttrsOk x0).awp Try.prog h fun t vs h' => t = 1 ∧ ∃ v, vs = [v] ∧ R v h') : ACalls Try.prog n_impl_AttrsOk [x0] h R :=
  acalls_of follows Try.func132 (by kernel_rfl) (by kernel_rfl) [0, 5, 6, 7] (fun r => if r = 4 then [(0, []), (1, []), (2, []), (3, []), (4, []), (5, []), (6, []), (7, []), (8, []), (9, []), (10, []), (11, []), (12, []), (13, []), (14, []), (15, []), (16, []), (17, [])] else []) (show trF Try.prog Try.f132 _ _ [x0] = p_impl_AttrsOk x0 by kernel_rfl) g
/- spec.AttrsOk -/
def p_spec_AttrsOk (x0 : AV) : Prog := .loop [AV.int .i64 0] (fun vs => .op (.len 0 x0) fun v => .op (.bin 0 .lss (g vs 0) v) fun v => .ite v (.op (.idx 4 x0 (g vs 0)) fun v => .op (.ldn 4 v) fun v => .op (.call n_spec_AttrOk [v]) fun v => .op (.una .not v) fun v => .gop v false (.mv (g vs 0)) fun v_1 => .gop v false (.bin 0 .gtr v_1 (AV.int .i64 0)) fun v_2 => .gop v false (.mv v_2) fun v_3 => .gop v_3 true (.mv x0) fun v_4 => .gop v_3 true (.mv (g vs 0)) fun v_5 => .gop v_3 true (.bin 0 .sub v_5 (AV.int .i64 1)) fun v_6 => .gop v_3 true (.idx 4 v_4 v_6) fun v_7 => .gop v_3 true (.fad 0 v_7) fun v_8 => .gop v_3 true (.ld1 v_8) fun v_9 => .gop v_3 true (.mv x0) fun v_10 => .gop v_3 true (.mv (g vs 0)) fun v_11 => .gop v_3 true (.idx 4 v_10 v_11) fun v_12 => .gop v_3 true (.fad 0 v_12) fun v_13 => .gop v_3 true (.ld1 v_13) fun v_14 => .gop v_3 true (.bin 1 .geq v_9 v_14) fun v_15 => .gop v false (.pick v_3 v_15 (AV.bool false)) fun v_16 => .op (.pick v (AV.bool true) v_16) fun v => .ite v (.fin [.val (AV.bool false)]) (.op (.bin 0 .add (g vs 0) (AV.int .i64 1)) fun v => .leaf 0 [v])) (.leaf 2 [g vs 0])) fun t vs => tsel t 1 (.leaf 1 vs) (tsel t 2 (.op (.len 0 x0) fun v => .op (.bin 0 .leq v (AV.int .i64 4)) fun v => .fin [.val v]) .bad)
theorem c_spec_AttrsOk (x0 : AV) {h : AH} {R : AV → AH → Prop} (g : (p_spec_AttrsOk x0).awp Try.prog h fun t vs h' => t = 1 ∧ ∃ v, vs = [v] ∧ R v h') : ACalls Try.prog n_spec_AttrsOk [x0] h R :=
  acalls_of follows Try.func131 (by kernel_rfl) (by kernel_rfl) [0, 3] (fun r => if r = 4 then [(0, []), (1, []), (2, []), (3, []), (4, []), (5, []), (6, []), (7, []), (8, []), (9, []), (10, []), (11, []), (12, []), (13, []), (14, []), (15, []), (16, []), (17, []), (18, []), (19, []), (20, []), (21, []), (22, []), (23, [])] else []) (show trF Try.prog Try.f131 _ _ [x0] = p_spec_AttrsOk x0 by kernel_rfl) g
/- impl.SizeOf -/
def p_impl_SizeOf (x0 : AV) : Prog := .op (.box x0) fun v => .op (.fad 5 v) fun v => .op (.ld1 v) fun v => .op (.len 0 v) fun v_1 => .loop [AV.int .i64 12, AV.int .i64 0] (fun vs => .op (.bin 0 .lss (g vs 1) v_1) fun v_2 => .ite v_2 (.op (.idx 4 v (g vs 1)) fun v => .op (.ldn 4 v) fun v => .op (.alloc [AV.str ⟨#[]⟩, AV.bool false, AV.int .i64 0, AV.str ⟨#[]⟩]) fun v_3 => .op (.st 4 v_3 v) fun v => .op (.ldn 4 v_3) fun v => .op (.call n_impl_AttrSize [v]) fun v => .op (.bin 0 .add (g vs 0) v) fun v => .op (.bin 0 .add (g vs 1) (AV.int .i64 1)) fun v_4 => .leaf 0 [v, v_4]) (.leaf 2 [g vs 0, g vs 1])) fun t vs => tsel t 1 (.leaf 1 vs) (tsel t 2 (.fin [.val (g vs 0)]) .bad)
theorem c_impl_SizeOf (x0 : AV) {h : AH} {R : AV → AH → Prop} (g : (p_impl_SizeOf x0).awp Try.prog h fun t vs h' => t = 1 ∧ ∃ v, vs = [v] ∧ R v h') : ACalls Try.prog n_impl_SizeOf [x0] h R :=
  acalls_of follows Try.func94 (by kernel_rfl) (by kernel_rfl) [3, 7, 8, 9] (fun _ => []) (show trF Try.prog Try.f94 _ _ [x0] = p_impl_SizeOf x0 by kernel_rfl) g
/- spec.SizeOf -/
def p_spec_SizeOf (x0 : AV) : Prog := .op (.box x0) fun v => .loop [AV.int .i64 12, AV.int .i64 0] (fun vs => .op (.fad 5 v) fun v_1 => .op (.ld1 v_1) fun v_2 => .op (.len 0 v_2) fun v_3 => .op (.bin 0 .lss (g vs 1) v_3) fun v_4 => .ite v_4 (.op (.fad 5 v) fun v => .op (.ld1 v) fun v => .op (.idx 4 v (g vs 1)) fun v => .op (.ldn 4 v) fun v => .op (.call n_spec_AttrSize [v]) fun v => .op (.bin 0 .add (g vs 0) v) fun v => .op (.bin 0 .add (g vs 1) (AV.int .i64 1)) fun v_5 => .leaf 0 [v, v_5]) (.leaf 2 [g vs 0, g vs 1])) fun t vs => tsel t 1 (.leaf 1 vs) (tsel t 2 (.fin [.val (g vs 0)]) .bad)
theorem c_spec_SizeOf (x0 : AV) {h : AH} {R : AV → AH → Prop} (g : (p_spec_SizeOf x0).awp Try.prog h fun t vs h' => t = 1 ∧ ∃ v, vs = [v] ∧ R v h') : ACalls Try.prog n_spec_SizeOf [x0] h R :=
  acalls_of follows Try.func92 (by kernel_rfl) (by kernel_rfl) [1, 3, 4] (fun _ => []) (show trF Try.prog Try.f92 _ _ [x0] = p_spec_SizeOf x0 by kernel_rfl) g
/- impl.SpanOk -/
def p_impl_SpanOk (x0 : AV) : Prog := .op (.box x0) fun v => .op (.fad 0 v) fun v_1 => .op (.ld1 v_1) fun v_2 => .op (.call n_impl_within [v_2, AV.int .i64 1, AV.int .i64 999]) fun v_3 => .gop v_3 true (.fad 1 v) fun v_4 => .gop v_3 true (.ld1 v_4) fun v_5 => .gop v_3 true (.call n_impl_within [v_5, AV.int .i64 1, AV.int .i64 999]) fun v_6 => .op (.pick v_3 v_6 (AV.bool false)) fun v_7 => .gop v_7 true (.fad 3 v) fun v_8 => .gop v_7 true (.ld1 v_8) fun v_9 => .gop v_7 true (.call n_impl_within [v_9, AV.int .i64 0, AV.int .i64 99999]) fun v_10 => .op (.pick v_7 v_10 (AV.bool false)) fun v_11 => .gop v_11 true (.fad 2 v) fun v_12 => .gop v_11 true (.ld1 v_12) fun v_13 => .gop v_11 true (.fad 3 v) fun v_14 => .gop v_11 true (.ld1 v_14) fun v_15 => .gop v_11 true (.call n_impl_within [v_13, AV.int .i64 0, v_15]) fun v_16 => .op (.pick v_11 v_16 (AV.bool false)) fun v_17 => .gop v_17 true (.fad 5 v) fun v_18 => .gop v_17 true (.ld1 v_18) fun v_19 => .gop v_17 true (.call n_impl_AttrsOk [v_19]) fun v_20 => .op (.pick v_17 v_20 (AV.bool false)) fun v_21 => .gop v_21 true (.ldn 6 v) fun v => .gop v_21 true (.call n_impl_SizeOf [v]) fun v => .gop v_21 true (.bin 0 .leq v (AV.int .i64 96)) fun v => .op (.pick v_21 v (AV.bool false)) fun v => .fin [.val v]
theorem c_impl_SpanOk (x0 : AV) {h : AH} {R : AV → AH → Prop} (g : (p_impl_SpanOk x0).awp Try.prog h fun t vs h' => t = 1 ∧ ∃ v, vs = [v] ∧ R v h') : ACalls Try.prog n_impl_SpanOk [x0] h R :=
  acalls_of follows Try.func83 (by kernel_rfl) (by kernel_rfl) [] (fun _ => []) (show trF Try.prog Try.f83 _ _ [x0] = p_impl_SpanOk x0 by kernel_rfl) g
/- spec.SpanOk -/
def p_spec_SpanOk (x0 : AV) : Prog := .op (.box x0) fun v => .op (.fad 0 v) fun v_1 => .op (.ld1 v_1) fun v_2 => .op (.call n_spec_l1In [v_2, AV.int .i64 1, AV.int .i64 999]) fun v_3 => .gop v_3 true (.fad 1 v) fun v_4 => .gop v_3 true (.ld1 v_4) fun v_5 => .gop v_3 true (.call n_spec_l1In [v_5, AV.int .i64 1, AV.int .i64 999]) fun v_6 => .op (.pick v_3 v_6 (AV.bool false)) fun v_7 => .gop v_7 true (.fad 2 v) fun v_8 => .gop v_7 true (.ld1 v_8) fun v_9 => .gop v_7 true (.call n_spec_l1In [v_9, AV.int .i64 0, AV.int .i64 99999]) fun v_10 => .op (.pick v_7 v_10 (AV.bool false)) fun v_11 => .gop v_11 true (.fad 3 v) fun v_12 => .gop v_11 true (.ld1 v_12) fun v_13 => .gop v_11 true (.fad 2 v) fun v_14 => .gop v_11 true (.ld1 v_14) fun v_15 => .gop v_11 true (.call n_spec_l1In [v_13, v_15, AV.int .i64 99999]) fun v_16 => .op (.pick v_11 v_16 (AV.bool false)) fun v_17 => .gop v_17 true (.fad 5 v) fun v_18 => .gop v_17 true (.ld1 v_18) fun v_19 => .gop v_17 true (.call n_spec_AttrsOk [v_19]) fun v_20 => .op (.pick v_17 v_20 (AV.bool false)) fun v_21 => .gop v_21 true (.ldn 6 v) fun v => .gop v_21 true (.call n_spec_SizeOf [v]) fun v => .gop v_21 true (.bin 0 .leq v (AV.int .i64 96)) fun v => .op (.pick v_21 v (AV.bool false)) fun v => .fin [.val v]
theorem c_spec_SpanOk (x0 : AV) {h : AH} {R : AV → AH → Prop} (g : (p_spec_SpanOk x0).awp Try.prog h fun t vs h' => t = 1 ∧ ∃ v, vs = [v] ∧ R v h') : ACalls Try.prog n_spec_SpanOk [x0] h R :=
  acalls_of follows Try.func81 (by kernel_rfl) (by kernel_rfl) [] (fun _ => []) (show trF Try.prog Try.f81 _ _ [x0] = p_spec_SpanOk x0 by kernel_rfl) g
/- impl.TotalOf -/
def p_impl_TotalOf (x0 : AV) : Prog := .op (.len 0 x0) fun v => .loop [AV.int .i64 0, AV.int .i64 0] (fun vs => .op (.bin 0 .lss (g vs 1) v) fun v => .ite v (.op (.idx 6 x0 (g vs 1)) fun v => .op (.ldn 6 v) fun v => .op (.alloc [AV.int .i64 0, AV.int .i64 0, AV.int .i64 0, AV.int .i64 0, AV.bool false, AV.nils]) fun v_1 => .op (.st 6 v_1 v) fun v => .op (.ldn 6 v_1) fun v => .op (.call n_impl_SizeOf [v]) fun v => .op (.bin 0 .add (g vs 0) v) fun v => .op (.bin 0 .add (g vs 1) (AV.int .i64 1)) fun v_2 => .leaf 0 [v, v_2]) (.leaf 2 [g vs 0, g vs 1])) fun t vs => tsel t 1 (.leaf 1 vs) (tsel t 2 (.fin [.val (g vs 0)]) .bad)
theorem c_impl_TotalOf (x0 : AV) {h : AH} {R : AV → AH → Prop} (g : (p_impl_TotalOf x0).awp Try.prog h fun t vs h' => t = 1 ∧ ∃ v, vs = [v] ∧ R v h') : ACalls Try.prog n_impl_TotalOf [x0] h R :=
  acalls_of follows Try.func140 (by kernel_rfl) (by kernel_rfl) [3, 6, 7, 8] (fun _ => []) (show trF Try.prog Try.f140 _ _ [x0] = p_impl_TotalOf x0 by kernel_rfl) g
/- spec.TotalOf -/
def p_spec_TotalOf (x0 : AV) : Prog := .loop [AV.int .i64 0, AV.int .i64 0] (fun vs => .op (.len 0 x0) fun v => .op (.bin 0 .lss (g vs 1) v) fun v => .ite v (.op (.idx 6 x0 (g vs 1)) fun v => .op (.ldn 6 v) fun v => .op (.call n_spec_SizeOf [v]) fun v => .op (.bin 0 .add (g vs 0) v) fun v => .op (.bin 0 .add (g vs 1) (AV.int .i64 1)) fun v_1 => .leaf 0 [v, v_1]) (.leaf 2 [g vs 0, g vs 1])) fun t vs => tsel t 1 (.leaf 1 vs) (tsel t 2 (.fin [.val (g vs 0)]) .bad)
theorem c_spec_TotalOf (x0 : AV) {h : AH} {R : AV → AH → Prop} (g : (p_spec_TotalOf x0).awp Try.prog h fun t vs h' => t = 1 ∧ ∃ v, vs = [v] ∧ R v h') : ACalls Try.prog n_spec_TotalOf [x0] h R :=
  acalls_of follows Try.func139 (by kernel_rfl) (by kernel_rfl) [0, 3, 4] (fun _ => []) (show trF Try.prog Try.f139 _ _ [x0] = p_spec_TotalOf x0 by kernel_rfl) g
end
def kge (a b : ByteArray) : Bool := !(Op.bytesLess a.toList b.toList)
def attrsAt (l : List Attr) (i : Nat) (a : Attr) : Prop := attrOk a ∧ ∀ b, 0 < i → l[((i : Int) - 1).toNat]? = some b → kge b.key a.key = false
def attrsOk (l : List Attr) : Prop := (∀ i a, l[i]? = some a → attrsAt l i a) ∧ (l.length : Int) ≤ 4

theorem s_impl_AttrsOk {h : AH} {l : List Attr} {v : AV} {F : List Nat} (ok : ∀ x ∈ l, Cel.ok x) (r : SlRep h v l F) : RCalls Try.prog n_impl_AttrsOk [v] h (.bool (bp (attrsOk l))) := by
  refine reader (c_impl_AttrsOk _) (by simp only [old]) ?_
  unfold p_impl_AttrsOk
  have hsm := r.small
  refine vs ?_
  refine aw_upto l.length (fun i vs h1 => vs = [.int .i64 (i : Int)] ∧ i ≤ l.length ∧ Ext h h1 ∧ Upto l (attrsAt l) i) ⟨rfl, Nat.zero_le _, Ext.refl _, up0⟩ ?_
  rintro i vs h1 _ ⟨rfl, hi, e1, hu⟩
  simp only [g0]
  refine br (fun hlt => ?_) (fun hge => ?_)
  · obtain ⟨x, hx, -, -⟩ := drop_step (show i < l.length by omega)
    have okx := ok x (List.mem_of_getElem? hx)
    (repeat' first|refine vs ?_|(refine br ?_ ?_<;>intro _<;>try(exfalso;first|omega|contradiction))|((with_reducible refine g_callf n_impl_AttrOk ?_);(refine aw_rcall_b (s_impl_AttrOk okx) ?_ ?_ <;> intro hn <;> first | replace hn := bp_true hn | replace hn := bp_false hn))|((with_reducible refine g_idx ?_);((first|refine ix ?_|refine ixi ?_|(refine ixg ?_;intro _ _)|(refine ixgi ?_;intro _ _));first|rintro _ _ _ _ _ ⟨rfl,rfl⟩ _|rintro _ _ _ _ _ ⟨_,rfl,_⟩ _|rintro _ _ _ _ _ ⟨_,_,_,_,rfl,rfl,_,_⟩ _|intro _ _ _ _ _ _ _))|(refine sx ?_;intro _ _)|((with_reducible refine g_awp ?_);simp only [g0,g1,g2]))
    all_goals first
      | (refine pf fun k => ?_; have k := k.1 i x hx; simp_all [attrsAt, kge]; done)
      | (refine ⟨by omega, rfl, by omega, ext_auto, upS hu hx ⟨hn, fun b h0 hb => ?_⟩⟩; first | (exfalso; omega) | (simp_all [kge]; done))
  · (repeat' first|refine vs ?_|(refine br ?_ ?_<;>intro _<;>try(exfalso;first|omega|contradiction))|((with_reducible refine g_idx ?_);((first|refine ix ?_|refine ixi ?_|(refine ixg ?_;intro _ _)|(refine ixgi ?_;intro _ _));first|rintro _ _ _ _ _ ⟨rfl,rfl⟩ _|rintro _ _ _ _ _ ⟨_,rfl,_⟩ _|rintro _ _ _ _ _ ⟨_,_,_,_,rfl,rfl,_,_⟩ _|intro _ _ _ _ _ _ _))|(refine sx ?_;intro _ _)|((with_reducible refine g_awp ?_);simp only [g0,g1,g2]))
    all_goals (have e : i = l.length := (by omega); rw [e] at hu; first | exact pt ⟨upEnd hu, by omega⟩ | exact pf fun k => by have := k.2; omega)
theorem s_spec_AttrsOk {h : AH} {l : List Attr} {v : AV} {F : List Nat} (ok : ∀ x ∈ l, Cel.ok x) (r : SlRep h v l F) : RCalls Try.prog n_spec_AttrsOk [v] h (.bool (bp (attrsOk l))) := by
  refine reader (c_spec_AttrsOk _) (by simp only [old]) ?_
  unfold p_spec_AttrsOk
  have hsm := r.small
  refine aw_upto l.length (fun i vs h1 => vs = [.int .i64 (i : Int)] ∧ i ≤ l.length ∧ Ext h h1 ∧ Upto l (attrsAt l) i) ⟨rfl, Nat.zero_le _, Ext.refl _, up0⟩ ?_
  rintro i vs h1 _ ⟨rfl, hi, e1, hu⟩
  simp only [g0]
  refine vs ?_
  refine br (fun hlt => ?_) (fun hge => ?_)
  · obtain ⟨x, hx, -, -⟩ := drop_step (show i < l.length by omega)
    have okx := ok x (List.mem_of_getElem? hx)
    (repeat' first|refine vs ?_|(refine br ?_ ?_<;>intro _<;>try(exfalso;first|omega|contradiction))|((with_reducible refine g_callf n_spec_AttrOk ?_);(refine aw_rcall_b (s_spec_AttrOk okx) ?_ ?_ <;> intro hn <;> first | replace hn := bp_true hn | replace hn := bp_false hn))|((with_reducible refine g_idx ?_);((first|refine ix ?_|refine ixi ?_|(refine ixg ?_;intro _ _)|(refine ixgi ?_;intro _ _));first|rintro _ _ _ _ _ ⟨rfl,rfl⟩ _|rintro _ _ _ _ _ ⟨_,rfl,_⟩ _|rintro _ _ _ _ _ ⟨_,_,_,_,rfl,rfl,_,_⟩ _|intro _ _ _ _ _ _ _))|(refine sx ?_;intro _ _)|((with_reducible refine g_awp ?_);simp only [g0,g1,g2]))
    all_goals first
      | (refine pf fun k => ?_; have k := k.1 i x hx; simp_all [attrsAt, kge]; done)
      | (refine ⟨by omega, rfl, by omega, ext_auto, upS hu hx ⟨hn, fun b h0 hb => ?_⟩⟩; first | (exfalso; omega) | (simp_all [kge]; done))
  · (repeat' first|refine vs ?_|(refine br ?_ ?_<;>intro _<;>try(exfalso;first|omega|contradiction))|((with_reducible refine g_idx ?_);((first|refine ix ?_|refine ixi ?_|(refine ixg ?_;intro _ _)|(refine ixgi ?_;intro _ _));first|rintro _ _ _ _ _ ⟨rfl,rfl⟩ _|rintro _ _ _ _ _ ⟨_,rfl,_⟩ _|rintro _ _ _ _ _ ⟨_,_,_,_,rfl,rfl,_,_⟩ _|intro _ _ _ _ _ _ _))|(refine sx ?_;intro _ _)|((with_reducible refine g_awp ?_);simp only [g0,g1,g2]))
    all_goals (have e : i = l.length := (by omega); rw [e] at hu; first | exact pt ⟨upEnd hu, by omega⟩ | exact pf fun k => by have := k.2; omega)

/-! ### Sizes -/
def sumI {α : Type} (f : α → Int) : List α → Int
  | [] => 0
  | x :: l => f x + sumI f l
theorem sumI_app {α : Type} (f : α → Int) : ∀ l r : List α, sumI f (l ++ r) = sumI f l + sumI f r
  | [], r => by simp [sumI]
  | x :: l, r => by simp only [List.cons_append, sumI, sumI_app f l]; omega
theorem sumI_take {α : Type} (f : α → Int) {xs : List α} {i : Nat} {x : α} (ht : xs.take (i + 1) = xs.take i ++ [x]) : sumI f (xs.take (i + 1)) = sumI f (xs.take i) + f x := by rw [ht, sumI_app]; simp [sumI]
theorem sumI_b {α : Type} [Sz α] {f : α → Int} {a b : Int} (hb : ∀ x, 0 ≤ f x ∧ f x ≤ a + b * (Sz.sz x : Nat)) : ∀ l : List α, 0 ≤ sumI f l ∧ sumI f l ≤ a * l.length + b * (szs l : Nat)
  | [] => by simp [sumI, szs]
  | x :: l => by
    have h1 := hb x; have h2 := sumI_b hb l
    simp only [sumI, szs, List.length_cons]
    have e1 : a * ((l.length + 1 : Nat) : Int) = a * l.length + a := by rw [Int.natCast_add, Int.mul_add]; simp
    have e2 : b * ((Sz.sz x + szs l : Nat) : Int) = b * (Sz.sz x : Nat) + b * (szs l : Nat) := by rw [Int.natCast_add, Int.mul_add]
    omega
theorem attrSize_b (a : Attr) : 0 ≤ attrSize a ∧ attrSize a ≤ 4 + 1 * (Sz.sz a : Nat) := by
  have : Sz.sz a = a.key.size + a.text.size := rfl
  unfold attrSize; split <;> omega
def spanSize (s : Span) : Int := 12 + sumI attrSize s.attrs
theorem spanSize_b (s : Span) : 0 ≤ spanSize s ∧ spanSize s ≤ 12 + 4 * (Sz.sz s : Nat) := by
  have : Sz.sz s = s.attrs.length + szs s.attrs := rfl
  have := sumI_b attrSize_b s.attrs
  unfold spanSize; omega
theorem s_impl_SizeOf {h : AH} {s : Span} {v : AV} {F : List Nat} (hs : Sz.sz s ≤ 1048576) (r : SlRep h v s.attrs F) : RCalls Try.prog n_impl_SizeOf [.agg (s.cs v)] h (.int .i64 (spanSize s)) := by
  refine reader (c_impl_SizeOf _) (by simp only [old]) ?_
  unfold p_impl_SizeOf
  have hsz : Sz.sz s = s.attrs.length + szs s.attrs := rfl
  have hsm := r.small
  refine vs ?_
  refine aw_upto s.attrs.length (fun i vs h1 => vs = [.int .i64 (12 + sumI attrSize (s.attrs.take i)), .int .i64 (i : Int)] ∧ i ≤ s.attrs.length ∧ Ext h h1) ⟨rfl, Nat.zero_le _, ext_auto⟩ ?_
  rintro i vs h1 _ ⟨rfl, hi, e1⟩
  simp only [g0, g1]
  refine br (fun hlt => ?_) (fun hge => ?_)
  · obtain ⟨x, hx, -, ht⟩ := drop_step (show i < s.attrs.length by omega)
    have h2 := attrSize_b x
    have h3 := sumI_b attrSize_b (s.attrs.take i)
    have h4 := szs_take_le s.attrs i
    have h5 := szs_mem (List.mem_of_getElem? hx)
    rw [List.length_take] at h3
    (repeat' first|refine vs ?_|(refine br ?_ ?_<;>intro _<;>try(exfalso;first|omega|contradiction))|((with_reducible refine g_callf n_impl_AttrSize ?_);refine aw_rcall (s_impl_AttrSize (by omega)) ?_)|((with_reducible refine g_idx ?_);((first|refine ix ?_|refine ixi ?_|(refine ixg ?_;intro _ _)|(refine ixgi ?_;intro _ _));first|rintro _ _ _ _ _ ⟨rfl,rfl⟩ _|rintro _ _ _ _ _ ⟨_,rfl,_⟩ _|rintro _ _ _ _ _ ⟨_,_,_,_,rfl,rfl,_,_⟩ _|intro _ _ _ _ _ _ _))|(refine sx ?_;intro _ _)|((with_reducible refine g_awp ?_);simp only [g0,g1,g2]))
    exact ⟨by omega, by rw [sumI_take _ ht, Int.add_assoc], by omega, ext_auto⟩
  · (repeat' first|refine vs ?_|(refine br ?_ ?_<;>intro _<;>try(exfalso;first|omega|contradiction))|((with_reducible refine g_idx ?_);((first|refine ix ?_|refine ixi ?_|(refine ixg ?_;intro _ _)|(refine ixgi ?_;intro _ _));first|rintro _ _ _ _ _ ⟨rfl,rfl⟩ _|rintro _ _ _ _ _ ⟨_,rfl,_⟩ _|rintro _ _ _ _ _ ⟨_,_,_,_,rfl,rfl,_,_⟩ _|intro _ _ _ _ _ _ _))|(refine sx ?_;intro _ _)|((with_reducible refine g_awp ?_);simp only [g0,g1,g2]))
    refine pi ?_
    rw [show i = s.attrs.length by omega, List.take_length]; rfl
theorem s_spec_SizeOf {h : AH} {s : Span} {v : AV} {F : List Nat} (hs : Sz.sz s ≤ 1048576) (r : SlRep h v s.attrs F) : RCalls Try.prog n_spec_SizeOf [.agg (s.cs v)] h (.int .i64 (spanSize s)) := by
  refine reader (c_spec_SizeOf _) (by simp only [old]) ?_
  unfold p_spec_SizeOf
  have hsz : Sz.sz s = s.attrs.length + szs s.attrs := rfl
  have hsm := r.small
  refine vs ?_
  refine aw_upto s.attrs.length (fun i vs h1 => vs = [.int .i64 (12 + sumI attrSize (s.attrs.take i)), .int .i64 (i : Int)] ∧ i ≤ s.attrs.length ∧ Ext (h.push ⟨s.cs v, 0, 0⟩) h1) ⟨rfl, Nat.zero_le _, ext_auto⟩ ?_
  rintro i vs h1 _ ⟨rfl, hi, e1⟩
  simp only [g0, g1]
  refine vs ?_
  refine br (fun hlt => ?_) (fun hge => ?_)
  · obtain ⟨x, hx, -, ht⟩ := drop_step (show i < s.attrs.length by omega)
    have h2 := attrSize_b x
    have h3 := sumI_b attrSize_b (s.attrs.take i)
    have h4 := szs_take_le s.attrs i
    have h5 := szs_mem (List.mem_of_getElem? hx)
    rw [List.length_take] at h3
    (repeat' first|refine vs ?_|(refine br ?_ ?_<;>intro _<;>try(exfalso;first|omega|contradiction))|((with_reducible refine g_callf n_spec_AttrSize ?_);refine aw_rcall (s_spec_AttrSize (by omega)) ?_)|((with_reducible refine g_idx ?_);((first|refine ix ?_|refine ixi ?_|(refine ixg ?_;intro _ _)|(refine ixgi ?_;intro _ _));first|rintro _ _ _ _ _ ⟨rfl,rfl⟩ _|rintro _ _ _ _ _ ⟨_,rfl,_⟩ _|rintro _ _ _ _ _ ⟨_,_,_,_,rfl,rfl,_,_⟩ _|intro _ _ _ _ _ _ _))|(refine sx ?_;intro _ _)|((with_reducible refine g_awp ?_);simp only [g0,g1,g2]))
    exact ⟨by omega, by rw [sumI_take _ ht, Int.add_assoc], by omega, ext_auto⟩
  · (repeat' first|refine vs ?_|(refine br ?_ ?_<;>intro _<;>try(exfalso;first|omega|contradiction))|((with_reducible refine g_idx ?_);((first|refine ix ?_|refine ixi ?_|(refine ixg ?_;intro _ _)|(refine ixgi ?_;intro _ _));first|rintro _ _ _ _ _ ⟨rfl,rfl⟩ _|rintro _ _ _ _ _ ⟨_,rfl,_⟩ _|rintro _ _ _ _ _ ⟨_,_,_,_,rfl,rfl,_,_⟩ _|intro _ _ _ _ _ _ _))|(refine sx ?_;intro _ _)|((with_reducible refine g_awp ?_);simp only [g0,g1,g2]))
    refine pi ?_
    rw [show i = s.attrs.length by omega, List.take_length]; rfl

def spanOk (s : Span) : Prop := (1 ≤ s.trace ∧ s.trace ≤ 999) ∧ (1 ≤ s.id ∧ s.id ≤ 999) ∧ (0 ≤ s.start ∧ s.start ≤ s.fin ∧ s.fin ≤ 99999) ∧ attrsOk s.attrs ∧ spanSize s ≤ 96
theorem s_impl_SpanOk {h : AH} {s : Span} {v : AV} {F : List Nat} (ok : Cel.ok s) (hs : Sz.sz s ≤ 1048576) (r : SlRep h v s.attrs F) : RCalls Try.prog n_impl_SpanOk [.agg (s.cs v)] h (.bool (bp (spanOk s))) := by
  refine reader (c_impl_SpanOk _) (by simp only [old]) ?_
  unfold p_impl_SpanOk
  obtain ⟨k1, k2, k3, k4, k5⟩ := ok
  (repeat' first|refine vs ?_|(refine br ?_ ?_<;>intro _<;>try(exfalso;first|omega|contradiction))|((with_reducible refine g_callf n_impl_within ?_);(refine aw_rcall_b s_impl_within ?_ ?_ <;> intro hb <;> first | replace hb := inB_t hb | replace hb := inB_f hb))|((with_reducible refine g_callf n_impl_AttrsOk ?_);(refine aw_rcall_b (s_impl_AttrsOk k5 slr_auto) ?_ ?_ <;> intro hn <;> first | replace hn := bp_true hn | replace hn := bp_false hn))|((with_reducible refine g_callf n_impl_SizeOf ?_);refine aw_rcall (s_impl_SizeOf hs slr_auto) ?_)|((with_reducible refine g_idx ?_);((first|refine ix ?_|refine ixi ?_|(refine ixg ?_;intro _ _)|(refine ixgi ?_;intro _ _));first|rintro _ _ _ _ _ ⟨rfl,rfl⟩ _|rintro _ _ _ _ _ ⟨_,rfl,_⟩ _|rintro _ _ _ _ _ ⟨_,_,_,_,rfl,rfl,_,_⟩ _|intro _ _ _ _ _ _ _))|(refine sx ?_;intro _ _)|((with_reducible refine g_awp ?_);simp only [g0,g1,g2]))
  all_goals first
    | exact pt ⟨by omega, by omega, by omega, by assumption, by omega⟩
    | exact pf fun k => by obtain ⟨a1, a2, a3, a4, a5⟩ := k; first | omega | contradiction
theorem s_spec_SpanOk {h : AH} {s : Span} {v : AV} {F : List Nat} (ok : Cel.ok s) (hs : Sz.sz s ≤ 1048576) (r : SlRep h v s.attrs F) : RCalls Try.prog n_spec_SpanOk [.agg (s.cs v)] h (.bool (bp (spanOk s))) := by
  refine reader (c_spec_SpanOk _) (by simp only [old]) ?_
  unfold p_spec_SpanOk
  obtain ⟨k1, k2, k3, k4, k5⟩ := ok
  (repeat' first|refine vs ?_|(refine br ?_ ?_<;>intro _<;>try(exfalso;first|omega|contradiction))|((with_reducible refine g_callf n_spec_l1In ?_);(refine aw_rcall_b s_spec_l1In ?_ ?_ <;> intro hb <;> first | replace hb := inB_t hb | replace hb := inB_f hb))|((with_reducible refine g_callf n_spec_AttrsOk ?_);(refine aw_rcall_b (s_spec_AttrsOk k5 slr_auto) ?_ ?_ <;> intro hn <;> first | replace hn := bp_true hn | replace hn := bp_false hn))|((with_reducible refine g_callf n_spec_SizeOf ?_);refine aw_rcall (s_spec_SizeOf hs slr_auto) ?_)|((with_reducible refine g_idx ?_);((first|refine ix ?_|refine ixi ?_|(refine ixg ?_;intro _ _)|(refine ixgi ?_;intro _ _));first|rintro _ _ _ _ _ ⟨rfl,rfl⟩ _|rintro _ _ _ _ _ ⟨_,rfl,_⟩ _|rintro _ _ _ _ _ ⟨_,_,_,_,rfl,rfl,_,_⟩ _|intro _ _ _ _ _ _ _))|(refine sx ?_;intro _ _)|((with_reducible refine g_awp ?_);simp only [g0,g1,g2]))
  all_goals first
    | exact pt ⟨by omega, by omega, by omega, by assumption, by omega⟩
    | exact pf fun k => by obtain ⟨a1, a2, a3, a4, a5⟩ := k; first | omega | contradiction

theorem s_impl_TotalOf {h : AH} {l : List Span} {v : AV} {F : List Nat} (hs : l.length + szs l ≤ 1048576) (r : SlRep h v l F) : RCalls Try.prog n_impl_TotalOf [v] h (.int .i64 (sumI spanSize l)) := by
  refine reader (c_impl_TotalOf _) (by simp only [old]) ?_
  unfold p_impl_TotalOf
  have hsm := r.small
  refine vs ?_
  refine aw_upto l.length (fun i vs h1 => vs = [.int .i64 (sumI spanSize (l.take i)), .int .i64 (i : Int)] ∧ i ≤ l.length ∧ Ext h h1) ⟨rfl, Nat.zero_le _, ext_auto⟩ ?_
  rintro i vs h1 _ ⟨rfl, hi, e1⟩
  simp only [g0, g1]
  refine br (fun hlt => ?_) (fun hge => ?_)
  · obtain ⟨x, hx, -, ht⟩ := drop_step (show i < l.length by omega)
    have h2 := spanSize_b x
    have h3 := sumI_b spanSize_b (l.take i)
    have h4 := szs_take_le l i
    have h5 := szs_mem (List.mem_of_getElem? hx)
    rw [List.length_take] at h3
    (repeat' first|refine vs ?_|(refine br ?_ ?_<;>intro _<;>try(exfalso;first|omega|contradiction))|((with_reducible refine g_callf n_impl_SizeOf ?_);refine aw_rcall (s_impl_SizeOf (by omega) slr_auto) ?_)|((with_reducible refine g_idx ?_);((first|refine ix ?_|refine ixi ?_|(refine ixg ?_;intro _ _)|(refine ixgi ?_;intro _ _));first|rintro _ _ _ _ _ ⟨rfl,rfl⟩ _|rintro _ _ _ _ _ ⟨_,rfl,_⟩ _|rintro _ _ _ _ _ ⟨_,_,_,_,rfl,rfl,_,_⟩ _|intro _ _ _ _ _ _ _))|(refine sx ?_;intro _ _)|((with_reducible refine g_awp ?_);simp only [g0,g1,g2]))
    exact ⟨by omega, by rw [sumI_take _ ht], by omega, ext_auto⟩
  · (repeat' first|refine vs ?_|(refine br ?_ ?_<;>intro _<;>try(exfalso;first|omega|contradiction))|((with_reducible refine g_idx ?_);((first|refine ix ?_|refine ixi ?_|(refine ixg ?_;intro _ _)|(refine ixgi ?_;intro _ _));first|rintro _ _ _ _ _ ⟨rfl,rfl⟩ _|rintro _ _ _ _ _ ⟨_,rfl,_⟩ _|rintro _ _ _ _ _ ⟨_,_,_,_,rfl,rfl,_,_⟩ _|intro _ _ _ _ _ _ _))|(refine sx ?_;intro _ _)|((with_reducible refine g_awp ?_);simp only [g0,g1,g2]))
    refine pi ?_
    rw [show i = l.length by omega, List.take_length]
theorem s_spec_TotalOf {h : AH} {l : List Span} {v : AV} {F : List Nat} (hs : l.length + szs l ≤ 1048576) (r : SlRep h v l F) : RCalls Try.prog n_spec_TotalOf [v] h (.int .i64 (sumI spanSize l)) := by
  refine reader (c_spec_TotalOf _) (by simp only [old]) ?_
  unfold p_spec_TotalOf
  have hsm := r.small
  refine aw_upto l.length (fun i vs h1 => vs = [.int .i64 (sumI spanSize (l.take i)), .int .i64 (i : Int)] ∧ i ≤ l.length ∧ Ext h h1) ⟨rfl, Nat.zero_le _, ext_auto⟩ ?_
  rintro i vs h1 _ ⟨rfl, hi, e1⟩
  simp only [g0, g1]
  refine vs ?_
  refine br (fun hlt => ?_) (fun hge => ?_)
  · obtain ⟨x, hx, -, ht⟩ := drop_step (show i < l.length by omega)
    have h2 := spanSize_b x
    have h3 := sumI_b spanSize_b (l.take i)
    have h4 := szs_take_le l i
    have h5 := szs_mem (List.mem_of_getElem? hx)
    rw [List.length_take] at h3
    (repeat' first|refine vs ?_|(refine br ?_ ?_<;>intro _<;>try(exfalso;first|omega|contradiction))|((with_reducible refine g_callf n_spec_SizeOf ?_);refine aw_rcall (s_spec_SizeOf (by omega) slr_auto) ?_)|((with_reducible refine g_idx ?_);((first|refine ix ?_|refine ixi ?_|(refine ixg ?_;intro _ _)|(refine ixgi ?_;intro _ _));first|rintro _ _ _ _ _ ⟨rfl,rfl⟩ _|rintro _ _ _ _ _ ⟨_,rfl,_⟩ _|rintro _ _ _ _ _ ⟨_,_,_,_,rfl,rfl,_,_⟩ _|intro _ _ _ _ _ _ _))|(refine sx ?_;intro _ _)|((with_reducible refine g_awp ?_);simp only [g0,g1,g2]))
    exact ⟨by omega, by rw [sumI_take _ ht], by omega, ext_auto⟩
  · (repeat' first|refine vs ?_|(refine br ?_ ?_<;>intro _<;>try(exfalso;first|omega|contradiction))|((with_reducible refine g_idx ?_);((first|refine ix ?_|refine ixi ?_|(refine ixg ?_;intro _ _)|(refine ixgi ?_;intro _ _));first|rintro _ _ _ _ _ ⟨rfl,rfl⟩ _|rintro _ _ _ _ _ ⟨_,rfl,_⟩ _|rintro _ _ _ _ _ ⟨_,_,_,_,rfl,rfl,_,_⟩ _|intro _ _ _ _ _ _ _))|(refine sx ?_;intro _ _)|((with_reducible refine g_awp ?_);simp only [g0,g1,g2]))
    refine pi ?_
    rw [show i = l.length by omega, List.take_length]
end Go.Proofs.Ytienckhjfcplcaa
