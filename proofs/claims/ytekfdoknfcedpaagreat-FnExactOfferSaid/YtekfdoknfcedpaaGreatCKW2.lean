import Derived.Test.YtekfdoknfcedpaaGreatCKW1
import Derived.Test.YtekfdoknfcedpaaGreatCK4
import Derived.Test.YtekfdoknfcedpaaGreatCK5
import Derived.Test.YtekfdoknfcedpaaGreatCNm
section
/- Wheels: what is in them, and which may be. -/
set_option linter.unusedSimpArgs false
set_option linter.unusedVariables false
set_option maxHeartbeats 2000000
namespace Go.Proofs.YtekfdoknfcedpaaGreat
open Go Go.Ab
section
/- impl.Timers -/
def p_impl_Timers (x0 : AV) : Prog := .op (.box x0) fun a=>Lg 1 a fun b=>Ln 0 b fun c=>.loop [.nils, .int .i64 0] (fun a=>Bn .lss (g a 1) c fun c=>.ite c (Ix 1 b (g a 1) fun b=>.op (.ld1 b) fun b=>.op (.app 3 24 (g a 0) b) fun b=>Bn .add (g a 1) (.int .i64 1) fun a=>.leaf 0 [b, a]) (.leaf 2 [g a 0, g a 1])) fun b c=>tsel b 1 (.leaf 1 c) (tsel b 2 (Lg 2 a fun b=>Ln 0 b fun d=>.loop [g c 0, .int .i64 0] (fun a=>Bn .lss (g a 1) d fun c=>.ite c (Ix 1 b (g a 1) fun b=>.op (.ld1 b) fun b=>.op (.app 3 24 (g a 0) b) fun b=>Bn .add (g a 1) (.int .i64 1) fun a=>.leaf 0 [b, a]) (.leaf 4 [g a 0, g a 1])) fun b c=>tsel b 1 (.leaf 1 c) (tsel b 4 (Lg 3 a fun a=>.op (.app 3 24 (g c 0) a) fun a=>.fin [.val a]) .bad)) .bad)
theorem c_impl_Timers (x0 : AV) : CC Tryz.prog n_impl_Timers [x0] (p_impl_Timers x0) := cc Tryz.func198 [1, 3, 9, 10, 11, 20, 21, 22] (fun _ => [])
/- spec.Timers -/
def p_spec_Timers (x0 : AV) : Prog := .op (.box x0) fun a=>.op (.bslice 3 0 [] []) fun b=>.loop [b, .int .i64 0] (fun b=>Lg 1 a fun c=>Ln 0 c fun c=>Bn .lss (g b 1) c fun c=>.ite c (Lg 1 a fun a=>Ix 1 a (g b 1) fun a=>.op (.ld1 a) fun a=>.op (.app 3 24 (g b 0) a) fun a=>Bn .add (g b 1) (.int .i64 1) fun b=>.leaf 0 [a, b]) (.leaf 2 [g b 0, g b 1])) fun b c=>tsel b 1 (.leaf 1 c) (tsel b 2 (.loop [g c 0, .int .i64 0] (fun b=>Lg 2 a fun c=>Ln 0 c fun c=>Bn .lss (g b 1) c fun c=>.ite c (Lg 2 a fun a=>Ix 1 a (g b 1) fun a=>.op (.ld1 a) fun a=>.op (.app 3 24 (g b 0) a) fun a=>Bn .add (g b 1) (.int .i64 1) fun b=>.leaf 0 [a, b]) (.leaf 4 [g b 0, g b 1])) fun b c=>tsel b 1 (.leaf 1 c) (tsel b 4 (Lg 3 a fun a=>.op (.app 3 24 (g c 0) a) fun a=>.fin [.val a]) .bad)) .bad)
theorem c_spec_Timers (x0 : AV) : CC Tryz.prog n_spec_Timers [x0] (p_spec_Timers x0) := cc Tryz.func103 [1, 3, 4, 5] (fun _ => [])
/- impl.belongs -/
def p_impl_belongs (x0 x1 x2 x3 : AV) : Prog := .op (.box x0) fun a=>Ln 0 x1 fun b=>.loop [.tup [], .int .i64 0] (fun c=>Bn .lss (g c 1) b fun b=>.ite b (Ix 3 x1 (g c 1) fun b=>Ld 3 b fun b=>.op (.alloc [.int .i64 0, .int .i64 0, .int .i64 0]) fun d=>.op (.st 3 d b) fun _=>Lg 0 d fun b=>Bn .lss b (.int .i64 1) fun b=>Gf b false 1 d fun e=>.gop b false (.call n_impl_within [e, .int .i64 1, .int .i64 999]) fun e=>.gop b false (.una .not e) fun e=>Pk b (.bool true) e fun b=>Gf b false 2 d fun e=>Gf b false 0 a fun f=>.gop b false (.bin 0 .leq e f) fun e=>Pk b (.bool true) e fun b=>Gf b false 2 d fun e=>.gop b false (.bin 0 .gtr e (.int .i64 2147483647)) fun e=>Pk b (.bool true) e fun b=>.ite b (.fin [.val (.bool false)]) (Lg 2 d fun b=>Bn .quo b (.int .i64 8) fun b=>Lg 0 a fun a=>Bn .quo a (.int .i64 8) fun a=>Bn .sub b a fun a=>Bn .geq a (.int .i64 8) fun b=>Bn .eql x2 (.int .i64 0) fun e=>.scope (.ite e (Bn .eql a (.int .i64 0) fun a=>Gf a true 2 d fun b=>.gop a true (.bin 0 .rem b (.int .i64 8)) fun b=>.gop a true (.mv x3) fun c=>.gop a true (.bin 0 .eql b c) fun b=>Pk a b (.bool false) fun a=>.leaf 0 [a]) (Bn .eql x2 (.int .i64 1) fun c=>.scope (.ite c (Cl n_impl_within [a, .int .i64 1, .int .i64 7] fun a=>Gf a true 2 d fun b=>.gop a true (.bin 0 .quo b (.int .i64 8)) fun b=>.gop a true (.bin 0 .rem b (.int .i64 8)) fun b=>.gop a true (.mv x3) fun c=>.gop a true (.bin 0 .eql b c) fun b=>Pk a b (.bool false) fun a=>.leaf 0 [a]) (.leaf 0 [b])) (fun a=>.leaf 0 [g a 0]) fun a b=>tsel a 1 (.leaf 1 b) .bad)) (fun a=>.op (.una .not (g a 0)) fun b=>.ite b (.fin [.val (.bool false)]) (Bn .add (g c 1) (.int .i64 1) fun b=>.leaf 0 [g a 0, b])) fun a b=>tsel a 1 (.leaf 1 b) .bad)) (.leaf 2 [g c 0, g c 1])) fun a b=>tsel a 1 (.leaf 1 b) (tsel a 2 (.fin [.val (.bool true)]) .bad)
theorem c_impl_belongs (x0 x1 x2 x3 : AV) : CC Tryz.prog n_impl_belongs [x0, x1, x2, x3] (p_impl_belongs x0 x1 x2 x3) := cc Tryz.func269 [2, 3, 4, 12, 13, 14, 15] (fun _ => [])
/- spec.l8Place -/
def p_spec_l8Place (x0 x1 : AV) : Prog := Bn .quo x1 (.int .i64 8) fun a=>Bn .quo x0 (.int .i64 8) fun b=>Bn .eql a b fun a=>.ite a (Bn .rem x1 (.int .i64 8) fun a=>.fin [.val (.int .i64 1), .val a]) (Bn .quo x1 (.int .i64 8) fun a=>Bn .quo x0 (.int .i64 8) fun b=>Bn .sub a b fun a=>Bn .lss a (.int .i64 8) fun a=>.ite a (Bn .quo x1 (.int .i64 8) fun a=>Bn .rem a (.int .i64 8) fun a=>.fin [.val (.int .i64 2), .val a]) (.fin [.val (.int .i64 3), .val (.int .i64 0)]))
theorem c_spec_l8Place (x0 x1 : AV) : CC Tryz.prog n_spec_l8Place [x0, x1] (p_spec_l8Place x0 x1) := cc Tryz.func252
/- spec.l8Slot -/
def p_spec_l8Slot (x0 x1 x2 x3 : AV) : Prog := .op (.box x0) fun a=>.loop [.int .i64 0] (fun b=>Ln 0 x1 fun c=>Bn .lss (g b 0) c fun c=>.ite c (Ix 3 x1 (g b 0) fun c=>Ld 3 c fun c=>.op (.alloc [.int .i64 0, .int .i64 0, .int .i64 0]) fun d=>.op (.st 3 d c) fun _=>Lg 0 d fun c=>Bn .lss c (.int .i64 1) fun c=>Gf c false 1 d fun e=>.gop c false (.call n_spec_l1In [e, .int .i64 1, .int .i64 999]) fun e=>.gop c false (.una .not e) fun e=>Pk c (.bool true) e fun c=>Gf c false 2 d fun e=>Gf c false 0 a fun f=>.gop c false (.bin 0 .add f (.int .i64 1)) fun f=>.gop c false (.call n_spec_l1In [e, f, .int .i64 2147483647]) fun e=>.gop c false (.una .not e) fun e=>Pk c (.bool true) e fun c=>.ite c (.fin [.val (.bool false)]) (Lg 0 a fun a=>Lg 2 d fun c=>Cl n_spec_l8Place [a, c] fun a=>.op (.ext a 0) fun c=>.op (.ext a 1) fun a=>Bn .neq c x2 fun c=>.gop c false (.mv a) fun a=>.gop c false (.mv x3) fun d=>.gop c false (.bin 0 .neq a d) fun a=>Pk c (.bool true) a fun a=>.ite a (.fin [.val (.bool false)]) (Bn .add (g b 0) (.int .i64 1) fun a=>.leaf 0 [a]))) (.leaf 2 [g b 0])) fun a b=>tsel a 1 (.leaf 1 b) (tsel a 2 (.fin [.val (.bool true)]) .bad)
theorem c_spec_l8Slot (x0 x1 x2 x3 : AV) : CC Tryz.prog n_spec_l8Slot [x0, x1, x2, x3] (p_spec_l8Slot x0 x1 x2 x3) := cc Tryz.func177 [1, 2, 3, 4, 9] (fun _ => [])
/- impl.timerAt$1 -/
def p_impl_timerAt_1 (x0 x1 : AV) : Prog := .op (.box x0) fun a=>Lg 0 a fun a=>.op (.ld1 x1) fun b=>Bn .eql a b fun a=>.fin [.val a]
theorem c_impl_timerAt_1 (x0 x1 : AV) : CC Tryz.prog n_impl_timerAt_1 [x0, x1] (p_impl_timerAt_1 x0 x1) := cc Tryz.func305
/- slices.IndexFunc[[]impl.Timer,impl.Timer] -/
def p_slices_IndexFunc_Timer (x0 x1 : AV) : Prog := Ln 0 x0 fun a=>.loop [.int .i64 0] (fun b=>Bn .lss (g b 0) a fun a=>.ite a (Ix 3 x0 (g b 0) fun a=>Ld 3 a fun a=>.op (.callv x1 [a]) fun a=>.ite a (.fin [.val (g b 0)]) (Bn .add (g b 0) (.int .i64 1) fun a=>.leaf 0 [a])) (.leaf 2 [g b 0])) fun a b=>tsel a 1 (.leaf 1 b) (tsel a 2 (.fin [.val (.int .i64 (-1))]) .bad)
theorem c_slices_IndexFunc_Timer (x0 x1 : AV) : CC Tryz.prog n_slices_IndexFunc_Timer [x0, x1] (p_slices_IndexFunc_Timer x0 x1) := cc Tryz.func276 [0, 1, 7, 8] (fun _ => [])
/- impl.timerAt -/
def p_impl_timerAt (x0 x1 : AV) : Prog := .op (.box x1) fun a=>.op (.mkfn n_impl_timerAt_1 [a]) fun a=>Cl n_slices_IndexFunc_Timer [x0, a] fun a=>.fin [.val a]
theorem c_impl_timerAt (x0 x1 : AV) : CC Tryz.prog n_impl_timerAt [x0, x1] (p_impl_timerAt x0 x1) := cc Tryz.func243
/- impl.WheelOk -/
def p_impl_WheelOk (x0 : AV) : Prog := .op (.box x0) fun a=>Lg 0 a fun b=>Cl n_impl_within [b, .int .i64 0, .int .i64 2147483647] fun b=>.op (.una .not b) fun b=>Gf b false 1 a fun c=>.gop b false (.len 0 c) fun c=>.gop b false (.bin 0 .neq c (.int .i64 8)) fun c=>Pk b (.bool true) c fun b=>Gf b false 2 a fun c=>.gop b false (.len 0 c) fun c=>.gop b false (.bin 0 .neq c (.int .i64 8)) fun c=>Pk b (.bool true) c fun b=>.gop b false (.ldn 4 a) fun c=>Gf b false 3 a fun d=>.gop b false (.call n_impl_belongs [c, d, .int .i64 2, .int .i64 0]) fun c=>.gop b false (.una .not c) fun c=>Pk b (.bool true) c fun b=>.ite b (.fin [.val (.bool false)]) (.loop [.int .i64 0] (fun b=>Bn .lss (g b 0) (.int .i64 8) fun c=>.ite c (Ld 4 a fun c=>Lg 1 a fun d=>Ix 1 d (g b 0) fun d=>.op (.ld1 d) fun d=>Cl n_impl_belongs [c, d, .int .i64 0, g b 0] fun c=>.op (.una .not c) fun c=>.gop c false (.ldn 4 a) fun d=>Gf c false 2 a fun a=>.gop c false (.mv (g b 0)) fun e=>.gop c false (.idx 1 a e) fun a=>.gop c false (.ld1 a) fun a=>.gop c false (.mv (g b 0)) fun e=>.gop c false (.call n_impl_belongs [d, a, .int .i64 1, e]) fun a=>.gop c false (.una .not a) fun a=>Pk c (.bool true) a fun a=>.ite a (.fin [.val (.bool false)]) (Bn .add (g b 0) (.int .i64 1) fun a=>.leaf 0 [a])) (.leaf 2 [g b 0])) fun b c=>tsel b 1 (.leaf 1 c) (tsel b 2 (Ld 4 a fun a=>Cl n_impl_Timers [a] fun a=>Ln 0 a fun b=>.loop [.int .i64 0] (fun c=>Bn .lss (g c 0) b fun b=>.ite b (Ix 3 a (g c 0) fun b=>Ld 3 b fun b=>.op (.alloc [.int .i64 0, .int .i64 0, .int .i64 0]) fun d=>.op (.st 3 d b) fun _=>Lg 0 d fun b=>Cl n_impl_timerAt [a, b] fun a=>Bn .neq a (g c 0) fun a=>.ite a (.fin [.val (.bool false)]) (Bn .add (g c 0) (.int .i64 1) fun a=>.leaf 0 [a])) (.leaf 4 [g c 0])) fun b c=>tsel b 1 (.leaf 1 c) (tsel b 4 (Ln 0 a fun a=>Bn .leq a (.int .i64 16) fun a=>.fin [.val a]) .bad)) .bad))
theorem c_impl_WheelOk (x0 : AV) : CC Tryz.prog n_impl_WheelOk [x0] (p_impl_WheelOk x0) := cc Tryz.func197 [1, 3, 4, 56, 57, 58] (fun r => if r = 6 then [(0, []), (1, []), (2, []), (3, []), (4, []), (5, []), (6, []), (7, []), (8, []), (9, []), (10, []), (11, []), (12, []), (13, []), (14, []), (15, []), (16, []), (17, []), (18, []), (19, [])] else [])
/- spec.WheelOk -/
def p_spec_WheelOk (x0 : AV) : Prog := .op (.box x0) fun a=>Lg 1 a fun b=>Ln 0 b fun b=>Bn .neq b (.int .i64 8) fun b=>Gf b false 2 a fun c=>.gop b false (.len 0 c) fun c=>.gop b false (.bin 0 .neq c (.int .i64 8)) fun c=>Pk b (.bool true) c fun b=>Gf b false 0 a fun c=>.gop b false (.call n_spec_l1In [c, .int .i64 0, .int .i64 2147483647]) fun c=>.gop b false (.una .not c) fun c=>Pk b (.bool true) c fun b=>.gop b false (.ldn 4 a) fun c=>Gf b false 3 a fun d=>.gop b false (.call n_spec_l8Slot [c, d, .int .i64 3, .int .i64 0]) fun c=>.gop b false (.una .not c) fun c=>Pk b (.bool true) c fun b=>.ite b (.fin [.val (.bool false)]) (.loop [.int .i64 0] (fun b=>Bn .lss (g b 0) (.int .i64 8) fun c=>.ite c (Ld 4 a fun c=>Lg 1 a fun d=>Ix 1 d (g b 0) fun d=>.op (.ld1 d) fun d=>Cl n_spec_l8Slot [c, d, .int .i64 1, g b 0] fun c=>.op (.una .not c) fun c=>.gop c false (.ldn 4 a) fun d=>Gf c false 2 a fun a=>.gop c false (.mv (g b 0)) fun e=>.gop c false (.idx 1 a e) fun a=>.gop c false (.ld1 a) fun a=>.gop c false (.mv (g b 0)) fun e=>.gop c false (.call n_spec_l8Slot [d, a, .int .i64 2, e]) fun a=>.gop c false (.una .not a) fun a=>Pk c (.bool true) a fun a=>.ite a (.fin [.val (.bool false)]) (Bn .add (g b 0) (.int .i64 1) fun a=>.leaf 0 [a])) (.leaf 2 [g b 0])) fun b c=>tsel b 1 (.leaf 1 c) (tsel b 2 (Ld 4 a fun a=>Cl n_spec_Timers [a] fun a=>.loop [.int .i64 0, .tup []] (fun b=>Ln 0 a fun c=>Bn .lss (g b 0) c fun c=>.ite c (.loop [.int .i64 0] (fun c=>Bn .lss (g c 0) (g b 0) fun d=>.ite d (Ix 3 a (g c 0) fun d=>Lg 0 d fun d=>Ix 3 a (g b 0) fun a=>Lg 0 a fun a=>Bn .eql d a fun a=>.ite a (.fin [.val (.bool false)]) (Bn .add (g c 0) (.int .i64 1) fun a=>.leaf 0 [a])) (.leaf 6 [g c 0])) fun a c=>tsel a 1 (.leaf 1 c) (tsel a 6 (Bn .add (g b 0) (.int .i64 1) fun a=>.leaf 0 [a, g c 0]) .bad)) (.leaf 4 [g b 0, g b 1])) fun b c=>tsel b 1 (.leaf 1 c) (tsel b 4 (Ln 0 a fun a=>Bn .leq a (.int .i64 16) fun a=>.fin [.val a]) .bad)) .bad))
theorem c_spec_WheelOk (x0 : AV) : CC Tryz.prog n_spec_WheelOk [x0] (p_spec_WheelOk x0) := cc Tryz.func102 [1, 3, 4, 5, 6] (fun r => if r = 6 then [(0, []), (1, []), (2, []), (3, []), (4, []), (5, []), (6, []), (7, []), (8, []), (9, []), (10, []), (11, []), (12, []), (13, []), (14, []), (15, []), (16, []), (17, []), (18, []), (19, [])] else if r = 15 then [(0, []), (1, []), (2, []), (3, []), (4, []), (5, []), (6, []), (7, []), (8, []), (9, []), (10, [])] else [])
end
def timers (w : Wheel) : List Ab.Timer := (w.near.flatten ++ w.far.flatten) ++ w.rest
theorem flat_s {l : List (List Ab.Timer)} {i : Nat} {x : List Ab.Timer} (ht : l.take (i + 1) = l.take i ++ [x]) : (l.take (i + 1)).flatten = (l.take i).flatten ++ x := by rw [ht]; simp
theorem flat_b : ∀ l : List (List Ab.Timer), l.flatten.length ≤ szs l
  | [] => by simp
  | x :: l => by
    have := flat_b l
    have h2 : Sz.sz x = x.length + szs x := rfl
    simp only [List.flatten_cons, List.length_append, szs]; omega
theorem s_impl_Timers {h : AH} {w : Wheel} {v0 v1 v2 : AV} {F0 F1 F2 : List Nat} (hs : Sz.sz w ≤ 67108864) (r0 : SlRep h v0 w.near F0) (r1 : SlRep h v1 w.far F1) (r2 : SlRep h v2 w.rest F2) : ACalls Tryz.prog n_impl_Timers [.agg (w.cs v0 v1 v2)] h (NewS Ab.Timer h (timers w)) := by
  have hsz : Sz.sz w = (w.near.length + szs w.near) + (w.far.length + szs w.far) + (w.rest.length + szs w.rest) := rfl
  refine c_impl_Timers _ ?_
  unfold p_impl_Timers
  have hb0 := flat_b w.near
  have hb1 := flat_b w.far
  (repeat' first|refine vs ?_|(refine br ?_ ?_<;>intro _<;>try(exfalso;first|omega|contradiction))|((with_reducible refine g_idx ?_);((first|refine ix ?_|refine ixi ?_|(refine ixg ?_;intro _ _)|(refine ixgi ?_;intro _ _));first|rintro _ _ _ _ _ ⟨rfl,rfl⟩ _|rintro _ _ _ _ _ ⟨_,rfl,_⟩ _|rintro _ _ _ _ _ ⟨_,_,_,_,rfl,rfl,_,_⟩ _|intro _ _ _ _ _ _ _))|(refine sx ?_;intro _ _)|((with_reducible refine g_awp ?_);simp only [g0,g1,g2]))
  refine aw_upto w.near.length (fun i vs h1 => ∃ u G, vs = [u, .int .i64 (i : Int)] ∧ i ≤ w.near.length ∧ Ext (h.push ⟨w.cs v0 v1 v2, 0, 0⟩) h1 ∧ SlRep h1 u (w.near.take i).flatten G ∧ Own (h.n + 1) h1 G) ⟨.nils, [], rfl, Nat.zero_le _, ext_auto, SlRep.nils, Own.nil⟩ ?_
  rintro i vs h1 _ ⟨u, G, rfl, hi, e1, ru, ou⟩
  have n1 := e1.1
  simp only [push_n] at n1
  simp only [g0, g1]
  have hb := flat_b (w.near.take i)
  have hle := szs_take_le w.near i
  refine br (fun hlt => ?_) (fun hge => ?_)
  · obtain ⟨x, hx, -, htk⟩ := drop_step (show i < w.near.length by omega)
    have hm := szs_mem (List.mem_of_getElem? hx)
    have hx2 : Sz.sz x = x.length + szs x := rfl
    refine vs ?_
    refine aw_idx r0 hx rfl ?_
    rintro b o _ Fi a ⟨vx, rfl, rx⟩ _
    (repeat' first|refine vs ?_|(refine br ?_ ?_<;>intro _<;>try(exfalso;first|omega|contradiction))|((with_reducible refine g_idx ?_);((first|refine ix ?_|refine ixi ?_|(refine ixg ?_;intro _ _)|(refine ixgi ?_;intro _ _));first|rintro _ _ _ _ _ ⟨rfl,rfl⟩ _|rintro _ _ _ _ _ ⟨_,rfl,_⟩ _|rintro _ _ _ _ _ ⟨_,_,_,_,rfl,rfl,_,_⟩ _|intro _ _ _ _ _ _ _))|(refine sx ?_;intro _ _)|((with_reducible refine g_awp ?_);simp only [g0,g1,g2]))
    refine app2F (n := h.n + 1) (xs := (w.near.take i).flatten) (ys := x) (Fx := G) slr_auto (slr_auto : SlRep _ vx x Fi) ol_auto om_auto rfl ?_ ?_ ?_
    · omega
    · omega
    intro u' h' F' ek kp r' o'
    (repeat' first|refine vs ?_|(refine br ?_ ?_<;>intro _<;>try(exfalso;first|omega|contradiction))|((with_reducible refine g_idx ?_);((first|refine ix ?_|refine ixi ?_|(refine ixg ?_;intro _ _)|(refine ixgi ?_;intro _ _));first|rintro _ _ _ _ _ ⟨rfl,rfl⟩ _|rintro _ _ _ _ _ ⟨_,rfl,_⟩ _|rintro _ _ _ _ _ ⟨_,_,_,_,rfl,rfl,_,_⟩ _|intro _ _ _ _ _ _ _))|(refine sx ?_;intro _ _)|((with_reducible refine g_awp ?_);simp only [g0,g1,g2]))
    exact ⟨by omega, u', F', rfl, by omega, ek _ e1 (by simp only [push_n]; omega), by rw [flat_s htk]; exact r', o'⟩
  · have e : i = w.near.length := by omega
    rw [e, List.take_length] at ru
    clear hb hle
    (repeat' first|refine vs ?_|(refine br ?_ ?_<;>intro _<;>try(exfalso;first|omega|contradiction))|((with_reducible refine g_idx ?_);((first|refine ix ?_|refine ixi ?_|(refine ixg ?_;intro _ _)|(refine ixgi ?_;intro _ _));first|rintro _ _ _ _ _ ⟨rfl,rfl⟩ _|rintro _ _ _ _ _ ⟨_,rfl,_⟩ _|rintro _ _ _ _ _ ⟨_,_,_,_,rfl,rfl,_,_⟩ _|intro _ _ _ _ _ _ _))|(refine sx ?_;intro _ _)|((with_reducible refine g_awp ?_);simp only [g0,g1,g2]))
    refine aw_upto w.far.length (fun i vs h1 => ∃ u G, vs = [u, .int .i64 (i : Int)] ∧ i ≤ w.far.length ∧ Ext (h.push ⟨w.cs v0 v1 v2, 0, 0⟩) h1 ∧ SlRep h1 u (w.near.flatten ++ (w.far.take i).flatten) G ∧ Own (h.n + 1) h1 G) ⟨u, G, rfl, Nat.zero_le _, e1, by simpa using ru, ou⟩ ?_
    clear ru ou e1 n1
    rintro i vs h1 _ ⟨u, G, rfl, hi, e1, ru, ou⟩
    have n1 := e1.1
    simp only [push_n] at n1
    simp only [g0, g1]
    have hb := flat_b (w.far.take i)
    have hle := szs_take_le w.far i
    refine br (fun hlt => ?_) (fun hge => ?_)
    · obtain ⟨x, hx, -, htk⟩ := drop_step (show i < w.far.length by omega)
      have hm := szs_mem (List.mem_of_getElem? hx)
      have hx2 : Sz.sz x = x.length + szs x := rfl
      refine vs ?_
      refine aw_idx r1 hx rfl ?_
      rintro b o _ Fi a ⟨vx, rfl, rx⟩ _
      (repeat' first|refine vs ?_|(refine br ?_ ?_<;>intro _<;>try(exfalso;first|omega|contradiction))|((with_reducible refine g_idx ?_);((first|refine ix ?_|refine ixi ?_|(refine ixg ?_;intro _ _)|(refine ixgi ?_;intro _ _));first|rintro _ _ _ _ _ ⟨rfl,rfl⟩ _|rintro _ _ _ _ _ ⟨_,rfl,_⟩ _|rintro _ _ _ _ _ ⟨_,_,_,_,rfl,rfl,_,_⟩ _|intro _ _ _ _ _ _ _))|(refine sx ?_;intro _ _)|((with_reducible refine g_awp ?_);simp only [g0,g1,g2]))
      refine app2F (n := h.n + 1) (xs := w.near.flatten ++ (w.far.take i).flatten) (ys := x) (Fx := G) slr_auto (slr_auto : SlRep _ vx x Fi) ol_auto om_auto rfl ?_ ?_ ?_
      · rw [List.length_append]; omega
      · rw [List.length_append]; omega
      intro u' h' F' ek kp r' o'
      (repeat' first|refine vs ?_|(refine br ?_ ?_<;>intro _<;>try(exfalso;first|omega|contradiction))|((with_reducible refine g_idx ?_);((first|refine ix ?_|refine ixi ?_|(refine ixg ?_;intro _ _)|(refine ixgi ?_;intro _ _));first|rintro _ _ _ _ _ ⟨rfl,rfl⟩ _|rintro _ _ _ _ _ ⟨_,rfl,_⟩ _|rintro _ _ _ _ _ ⟨_,_,_,_,rfl,rfl,_,_⟩ _|intro _ _ _ _ _ _ _))|(refine sx ?_;intro _ _)|((with_reducible refine g_awp ?_);simp only [g0,g1,g2]))
      exact ⟨by omega, u', F', rfl, by omega, ek _ e1 (by simp only [push_n]; omega), by rw [flat_s htk, ← List.append_assoc]; exact r', o'⟩
    · have e : i = w.far.length := by omega
      rw [e, List.take_length] at ru
      (repeat' first|refine vs ?_|(refine br ?_ ?_<;>intro _<;>try(exfalso;first|omega|contradiction))|((with_reducible refine g_idx ?_);((first|refine ix ?_|refine ixi ?_|(refine ixg ?_;intro _ _)|(refine ixgi ?_;intro _ _));first|rintro _ _ _ _ _ ⟨rfl,rfl⟩ _|rintro _ _ _ _ _ ⟨_,rfl,_⟩ _|rintro _ _ _ _ _ ⟨_,_,_,_,rfl,rfl,_,_⟩ _|intro _ _ _ _ _ _ _))|(refine sx ?_;intro _ _)|((with_reducible refine g_awp ?_);simp only [g0,g1,g2]))
      refine app2F (n := h.n + 1) (xs := w.near.flatten ++ w.far.flatten) (ys := w.rest) (Fx := G) slr_auto (slr_auto : SlRep _ v2 w.rest F2) ol_auto om_auto rfl ?_ ?_ ?_
      · rw [List.length_append]; omega
      · rw [List.length_append]; omega
      intro u' h' F' ek kp r' o'
      (repeat' first|refine vs ?_|(refine br ?_ ?_<;>intro _<;>try(exfalso;first|omega|contradiction))|((with_reducible refine g_idx ?_);((first|refine ix ?_|refine ixi ?_|(refine ixg ?_;intro _ _)|(refine ixgi ?_;intro _ _));first|rintro _ _ _ _ _ ⟨rfl,rfl⟩ _|rintro _ _ _ _ _ ⟨_,rfl,_⟩ _|rintro _ _ _ _ _ ⟨_,_,_,_,rfl,rfl,_,_⟩ _|intro _ _ _ _ _ _ _))|(refine sx ?_;intro _ _)|((with_reducible refine g_awp ?_);simp only [g0,g1,g2]))
      exact ⟨rfl, _, rfl, ek _ ext_auto (by omega), _, r', o'.mono (by omega) fun _ _ => rfl⟩
theorem s_spec_Timers {h : AH} {w : Wheel} {v0 v1 v2 : AV} {F0 F1 F2 : List Nat} (hs : Sz.sz w ≤ 67108864) (r0 : SlRep h v0 w.near F0) (r1 : SlRep h v1 w.far F1) (r2 : SlRep h v2 w.rest F2) : ACalls Tryz.prog n_spec_Timers [.agg (w.cs v0 v1 v2)] h (NewS Ab.Timer h (timers w)) := by
  have hsz : Sz.sz w = (w.near.length + szs w.near) + (w.far.length + szs w.far) + (w.rest.length + szs w.rest) := rfl
  refine c_spec_Timers _ ?_
  unfold p_spec_Timers
  have hb0 := flat_b w.near
  have hb1 := flat_b w.far
  have hl0 := r0.small
  have hl1 := r1.small
  refine vs ?_
  obtain ⟨re, oe⟩ := empty_own (h := h.push ⟨w.cs v0 v1 v2, 0, 0⟩) (α := Ab.Timer) (w := 3) rfl
  refine aw_upto w.near.length (fun i vs h1 => ∃ u G, vs = [u, .int .i64 (i : Int)] ∧ i ≤ w.near.length ∧ Ext (h.push ⟨w.cs v0 v1 v2, 0, 0⟩) h1 ∧ SlRep h1 u (w.near.take i).flatten G ∧ Own (h.n + 1) h1 G) ⟨_, _, rfl, Nat.zero_le _, ext_auto, re, oe _ (Nat.le_refl _)⟩ ?_
  rintro i vs h1 _ ⟨u, G, rfl, hi, e1, ru, ou⟩
  have n1 := e1.1
  simp only [push_n] at n1
  simp only [g0, g1]
  have hb := flat_b (w.near.take i)
  have hle := szs_take_le w.near i
  refine vs ?_
  refine br (fun hlt => ?_) (fun hge => ?_)
  · obtain ⟨x, hx, -, htk⟩ := drop_step (show i < w.near.length by omega)
    have hm := szs_mem (List.mem_of_getElem? hx)
    have hx2 : Sz.sz x = x.length + szs x := rfl
    refine vs ?_
    refine aw_idx r0 hx rfl ?_
    rintro b o _ Fi a ⟨vx, rfl, rx⟩ _
    (repeat' first|refine vs ?_|(refine br ?_ ?_<;>intro _<;>try(exfalso;first|omega|contradiction))|((with_reducible refine g_idx ?_);((first|refine ix ?_|refine ixi ?_|(refine ixg ?_;intro _ _)|(refine ixgi ?_;intro _ _));first|rintro _ _ _ _ _ ⟨rfl,rfl⟩ _|rintro _ _ _ _ _ ⟨_,rfl,_⟩ _|rintro _ _ _ _ _ ⟨_,_,_,_,rfl,rfl,_,_⟩ _|intro _ _ _ _ _ _ _))|(refine sx ?_;intro _ _)|((with_reducible refine g_awp ?_);simp only [g0,g1,g2]))
    refine app2F (n := h.n + 1) (xs := (w.near.take i).flatten) (ys := x) (Fx := G) slr_auto (slr_auto : SlRep _ vx x Fi) ol_auto om_auto rfl ?_ ?_ ?_
    · omega
    · omega
    intro u' h' F' ek kp r' o'
    (repeat' first|refine vs ?_|(refine br ?_ ?_<;>intro _<;>try(exfalso;first|omega|contradiction))|((with_reducible refine g_idx ?_);((first|refine ix ?_|refine ixi ?_|(refine ixg ?_;intro _ _)|(refine ixgi ?_;intro _ _));first|rintro _ _ _ _ _ ⟨rfl,rfl⟩ _|rintro _ _ _ _ _ ⟨_,rfl,_⟩ _|rintro _ _ _ _ _ ⟨_,_,_,_,rfl,rfl,_,_⟩ _|intro _ _ _ _ _ _ _))|(refine sx ?_;intro _ _)|((with_reducible refine g_awp ?_);simp only [g0,g1,g2]))
    exact ⟨by omega, u', F', rfl, by omega, ek _ e1 (by simp only [push_n]; omega), by rw [flat_s htk]; exact r', o'⟩
  · have e : i = w.near.length := by omega
    rw [e, List.take_length] at ru
    clear hb hle
    (repeat' first|refine vs ?_|(refine br ?_ ?_<;>intro _<;>try(exfalso;first|omega|contradiction))|((with_reducible refine g_idx ?_);((first|refine ix ?_|refine ixi ?_|(refine ixg ?_;intro _ _)|(refine ixgi ?_;intro _ _));first|rintro _ _ _ _ _ ⟨rfl,rfl⟩ _|rintro _ _ _ _ _ ⟨_,rfl,_⟩ _|rintro _ _ _ _ _ ⟨_,_,_,_,rfl,rfl,_,_⟩ _|intro _ _ _ _ _ _ _))|(refine sx ?_;intro _ _)|((with_reducible refine g_awp ?_);simp only [g0,g1,g2]))
    refine aw_upto w.far.length (fun i vs h1 => ∃ u G, vs = [u, .int .i64 (i : Int)] ∧ i ≤ w.far.length ∧ Ext (h.push ⟨w.cs v0 v1 v2, 0, 0⟩) h1 ∧ SlRep h1 u (w.near.flatten ++ (w.far.take i).flatten) G ∧ Own (h.n + 1) h1 G) ⟨u, G, rfl, Nat.zero_le _, e1, by simpa using ru, ou⟩ ?_
    clear ru ou e1 n1
    rintro i vs h1 _ ⟨u, G, rfl, hi, e1, ru, ou⟩
    have n1 := e1.1
    simp only [push_n] at n1
    simp only [g0, g1]
    have hb := flat_b (w.far.take i)
    have hle := szs_take_le w.far i
    refine vs ?_
    refine br (fun hlt => ?_) (fun hge => ?_)
    · obtain ⟨x, hx, -, htk⟩ := drop_step (show i < w.far.length by omega)
      have hm := szs_mem (List.mem_of_getElem? hx)
      have hx2 : Sz.sz x = x.length + szs x := rfl
      refine vs ?_
      refine aw_idx r1 hx rfl ?_
      rintro b o _ Fi a ⟨vx, rfl, rx⟩ _
      (repeat' first|refine vs ?_|(refine br ?_ ?_<;>intro _<;>try(exfalso;first|omega|contradiction))|((with_reducible refine g_idx ?_);((first|refine ix ?_|refine ixi ?_|(refine ixg ?_;intro _ _)|(refine ixgi ?_;intro _ _));first|rintro _ _ _ _ _ ⟨rfl,rfl⟩ _|rintro _ _ _ _ _ ⟨_,rfl,_⟩ _|rintro _ _ _ _ _ ⟨_,_,_,_,rfl,rfl,_,_⟩ _|intro _ _ _ _ _ _ _))|(refine sx ?_;intro _ _)|((with_reducible refine g_awp ?_);simp only [g0,g1,g2]))
      refine app2F (n := h.n + 1) (xs := w.near.flatten ++ (w.far.take i).flatten) (ys := x) (Fx := G) slr_auto (slr_auto : SlRep _ vx x Fi) ol_auto om_auto rfl ?_ ?_ ?_
      · rw [List.length_append]; omega
      · rw [List.length_append]; omega
      intro u' h' F' ek kp r' o'
      (repeat' first|refine vs ?_|(refine br ?_ ?_<;>intro _<;>try(exfalso;first|omega|contradiction))|((with_reducible refine g_idx ?_);((first|refine ix ?_|refine ixi ?_|(refine ixg ?_;intro _ _)|(refine ixgi ?_;intro _ _));first|rintro _ _ _ _ _ ⟨rfl,rfl⟩ _|rintro _ _ _ _ _ ⟨_,rfl,_⟩ _|rintro _ _ _ _ _ ⟨_,_,_,_,rfl,rfl,_,_⟩ _|intro _ _ _ _ _ _ _))|(refine sx ?_;intro _ _)|((with_reducible refine g_awp ?_);simp only [g0,g1,g2]))
      exact ⟨by omega, u', F', rfl, by omega, ek _ e1 (by simp only [push_n]; omega), by rw [flat_s htk, ← List.append_assoc]; exact r', o'⟩
    · have e : i = w.far.length := by omega
      rw [e, List.take_length] at ru
      (repeat' first|refine vs ?_|(refine br ?_ ?_<;>intro _<;>try(exfalso;first|omega|contradiction))|((with_reducible refine g_idx ?_);((first|refine ix ?_|refine ixi ?_|(refine ixg ?_;intro _ _)|(refine ixgi ?_;intro _ _));first|rintro _ _ _ _ _ ⟨rfl,rfl⟩ _|rintro _ _ _ _ _ ⟨_,rfl,_⟩ _|rintro _ _ _ _ _ ⟨_,_,_,_,rfl,rfl,_,_⟩ _|intro _ _ _ _ _ _ _))|(refine sx ?_;intro _ _)|((with_reducible refine g_awp ?_);simp only [g0,g1,g2]))
      refine app2F (n := h.n + 1) (xs := w.near.flatten ++ w.far.flatten) (ys := w.rest) (Fx := G) slr_auto (slr_auto : SlRep _ v2 w.rest F2) ol_auto om_auto rfl ?_ ?_ ?_
      · rw [List.length_append]; omega
      · rw [List.length_append]; omega
      intro u' h' F' ek kp r' o'
      (repeat' first|refine vs ?_|(refine br ?_ ?_<;>intro _<;>try(exfalso;first|omega|contradiction))|((with_reducible refine g_idx ?_);((first|refine ix ?_|refine ixi ?_|(refine ixg ?_;intro _ _)|(refine ixgi ?_;intro _ _));first|rintro _ _ _ _ _ ⟨rfl,rfl⟩ _|rintro _ _ _ _ _ ⟨_,rfl,_⟩ _|rintro _ _ _ _ _ ⟨_,_,_,_,rfl,rfl,_,_⟩ _|intro _ _ _ _ _ _ _))|(refine sx ?_;intro _ _)|((with_reducible refine g_awp ?_);simp only [g0,g1,g2]))
      exact ⟨rfl, _, rfl, ek _ ext_auto (by omega), _, r', o'.mono (by omega) fun _ _ => rfl⟩

/-! ### Where a timer belongs -/
def slotP (now kind slot : Int) (t : Ab.Timer) : Prop := 1 ≤ t.id ∧ (1 ≤ t.trace ∧ t.trace ≤ 999) ∧ now < t.at_ ∧ t.at_ ≤ 2147483647 ∧
  ((kind = 0 ∧ t.at_ / 8 = now / 8 ∧ t.at_ % 8 = slot) ∨ (kind = 1 ∧ 1 ≤ t.at_ / 8 - now / 8 ∧ t.at_ / 8 - now / 8 ≤ 7 ∧ t.at_ / 8 % 8 = slot) ∨ (kind = 2 ∧ 8 ≤ t.at_ / 8 - now / 8))
theorem tm8 {a : Int} (h : 0 ≤ a) : a.tmod 8 = a % 8 := Int.tmod_eq_emod_of_nonneg h
theorem s_impl_belongs {h : AH} {w : Wheel} {l : List Ab.Timer} {v v0 v1 v2 : AV} {F : List Nat} {kind slot : Int} (h0 : 0 ≤ w.now) (h1 : w.now ≤ 2147483647) (hk : kind = 0 ∨ kind = 1 ∨ kind = 2) (r : SlRep h v l F) : RCalls Tryz.prog n_impl_belongs [.agg (w.cs v0 v1 v2), v, .int .i64 kind, .int .i64 slot] h (.bool (bp (∀ t ∈ l, slotP w.now kind slot t))) := by
  refine reader (c_impl_belongs _ _ _ _) (by simp only [old]) ?_
  unfold p_impl_belongs
  have hsm := r.small
  (repeat' first|refine vs ?_|(refine br ?_ ?_<;>intro _<;>try(exfalso;first|omega|contradiction))|((with_reducible refine g_idx ?_);((first|refine ix ?_|refine ixi ?_|(refine ixg ?_;intro _ _)|(refine ixgi ?_;intro _ _));first|rintro _ _ _ _ _ ⟨rfl,rfl⟩ _|rintro _ _ _ _ _ ⟨_,rfl,_⟩ _|rintro _ _ _ _ _ ⟨_,_,_,_,rfl,rfl,_,_⟩ _|intro _ _ _ _ _ _ _))|(refine sx ?_;intro _ _)|((with_reducible refine g_awp ?_);simp only [g0,g1,g2]))
  refine aw_upto l.length (fun i vs h1 => ∃ z, vs = [z, .int .i64 (i : Int)] ∧ i ≤ l.length ∧ Ext (h.push ⟨w.cs v0 v1 v2, 0, 0⟩) h1 ∧ Upto l (fun _ t => slotP w.now kind slot t) i) ⟨_, rfl, Nat.zero_le _, ext_auto, up0⟩ ?_
  rintro i vs h2 _ ⟨z, rfl, hi, e1, hu⟩
  simp only [g0, g1]
  refine br (fun hlt => ?_) (fun hge => ?_)
  · obtain ⟨x, hx, -, -⟩ := drop_step (show i < l.length by omega)
    (repeat' first|refine vs ?_|(refine br ?_ ?_<;>intro _<;>try(exfalso;first|omega|contradiction))|((with_reducible refine g_callf n_impl_within ?_);(refine aw_rcall_b s_impl_within ?_ ?_ <;> intro hb <;> (first | replace hb := inB_t hb | replace hb := inB_f hb)))|((with_reducible refine g_idx ?_);((first|refine ix ?_|refine ixi ?_|(refine ixg ?_;intro _ _)|(refine ixgi ?_;intro _ _));first|rintro _ _ _ _ _ ⟨rfl,rfl⟩ _|rintro _ _ _ _ _ ⟨_,rfl,_⟩ _|rintro _ _ _ _ _ ⟨_,_,_,_,rfl,rfl,_,_⟩ _|intro _ _ _ _ _ _ _))|(refine sx ?_;intro _ _)|((with_reducible refine g_awp ?_);simp only [g0,g1,g2]))
    all_goals (have t1 := tm8 (a := x.at_) ; have t2 := tm8 (a := x.at_ / 8))
    all_goals first
      | exact pf fun k => upNot hx (by unfold slotP; omega) k
      | exact ⟨by omega, _, rfl, by omega, ext_auto, upS hu hx (by unfold slotP; omega)⟩
  · (repeat' first|refine vs ?_|(refine br ?_ ?_<;>intro _<;>try(exfalso;first|omega|contradiction))|((with_reducible refine g_idx ?_);((first|refine ix ?_|refine ixi ?_|(refine ixg ?_;intro _ _)|(refine ixgi ?_;intro _ _));first|rintro _ _ _ _ _ ⟨rfl,rfl⟩ _|rintro _ _ _ _ _ ⟨_,rfl,_⟩ _|rintro _ _ _ _ _ ⟨_,_,_,_,rfl,rfl,_,_⟩ _|intro _ _ _ _ _ _ _))|(refine sx ?_;intro _ _)|((with_reducible refine g_awp ?_);simp only [g0,g1,g2]))
    rw [show i = l.length by omega] at hu
    exact pt (upAll hu)
theorem s_spec_l8Place {h : AH} {now at_ : Int} : 0 ≤ now → now ≤ 2147483647 → 0 ≤ at_ → at_ ≤ 2147483647 → RCalls Tryz.prog n_spec_l8Place [.int .i64 now, .int .i64 at_] h (.tup [.int .i64 (if at_ / 8 = now / 8 then 1 else if at_ / 8 - now / 8 < 8 then 2 else 3), .int .i64 (if at_ / 8 = now / 8 then at_ % 8 else if at_ / 8 - now / 8 < 8 then at_ / 8 % 8 else 0)]) := by
  intro h0 h1 h2 h3
  refine reader (c_spec_l8Place _ _) (by simp [old, olds]) ?_
  unfold p_spec_l8Place
  have t1 := tm8 (a := at_) h2
  have t2 := tm8 (a := at_ / 8) (by omega)
  (repeat' first|refine vs ?_|(refine br ?_ ?_<;>intro _<;>try(exfalso;first|omega|contradiction))|((with_reducible refine g_idx ?_);((first|refine ix ?_|refine ixi ?_|(refine ixg ?_;intro _ _)|(refine ixgi ?_;intro _ _));first|rintro _ _ _ _ _ ⟨rfl,rfl⟩ _|rintro _ _ _ _ _ ⟨_,rfl,_⟩ _|rintro _ _ _ _ _ ⟨_,_,_,_,rfl,rfl,_,_⟩ _|intro _ _ _ _ _ _ _))|(refine sx ?_;intro _ _)|((with_reducible refine g_awp ?_);simp only [g0,g1,g2]))
  all_goals (refine ⟨rfl, ?_, Ext.refl _⟩; first | (simp_all; done) | (simp_all; omega))
theorem s_spec_l8Slot {h : AH} {w : Wheel} {l : List Ab.Timer} {v v0 v1 v2 : AV} {F : List Nat} {kind slot k1 : Int} (h0 : 0 ≤ w.now) (h1 : w.now ≤ 2147483647) (hk : kind = 0 ∨ kind = 1 ∨ kind = 2 ∧ slot = 0) (hk1 : k1 = kind + 1) (r : SlRep h v l F) : RCalls Tryz.prog n_spec_l8Slot [.agg (w.cs v0 v1 v2), v, .int .i64 k1, .int .i64 slot] h (.bool (bp (∀ t ∈ l, slotP w.now kind slot t))) := by
  subst hk1
  refine reader (c_spec_l8Slot _ _ _ _) (by simp only [old]) ?_
  unfold p_spec_l8Slot
  have hsm := r.small
  (repeat' first|refine vs ?_|(refine br ?_ ?_<;>intro _<;>try(exfalso;first|omega|contradiction))|((with_reducible refine g_idx ?_);((first|refine ix ?_|refine ixi ?_|(refine ixg ?_;intro _ _)|(refine ixgi ?_;intro _ _));first|rintro _ _ _ _ _ ⟨rfl,rfl⟩ _|rintro _ _ _ _ _ ⟨_,rfl,_⟩ _|rintro _ _ _ _ _ ⟨_,_,_,_,rfl,rfl,_,_⟩ _|intro _ _ _ _ _ _ _))|(refine sx ?_;intro _ _)|((with_reducible refine g_awp ?_);simp only [g0,g1,g2]))
  refine aw_upto l.length (fun i vs h1 => vs = [.int .i64 (i : Int)] ∧ i ≤ l.length ∧ Ext (h.push ⟨w.cs v0 v1 v2, 0, 0⟩) h1 ∧ Upto l (fun _ t => slotP w.now kind slot t) i) ⟨rfl, Nat.zero_le _, ext_auto, up0⟩ ?_
  rintro i vs h2 _ ⟨rfl, hi, e1, hu⟩
  simp only [g0]
  refine vs ?_
  refine br (fun hlt => ?_) (fun hge => ?_)
  · obtain ⟨x, hx, -, -⟩ := drop_step (show i < l.length by omega)
    (repeat' first|refine vs ?_|(refine br ?_ ?_<;>intro _<;>try(exfalso;first|omega|contradiction))|((with_reducible refine g_callf n_spec_l1In ?_);(refine aw_rcall_b s_spec_l1In ?_ ?_ <;> intro hb <;> (first | replace hb := inB_t hb | replace hb := inB_f hb)))|((with_reducible refine g_callf n_spec_l8Place ?_);(refine aw_rcall (s_spec_l8Place (by omega) (by omega) (by omega) (by omega)) ?_))|((with_reducible refine g_idx ?_);((first|refine ix ?_|refine ixi ?_|(refine ixg ?_;intro _ _)|(refine ixgi ?_;intro _ _));first|rintro _ _ _ _ _ ⟨rfl,rfl⟩ _|rintro _ _ _ _ _ ⟨_,rfl,_⟩ _|rintro _ _ _ _ _ ⟨_,_,_,_,rfl,rfl,_,_⟩ _|intro _ _ _ _ _ _ _))|(refine sx ?_;intro _ _)|((with_reducible refine g_awp ?_);simp only [g0,g1,g2]))
    all_goals first
      | exact pf fun k => upNot hx (by unfold slotP; omega) k
      | exact ⟨by omega, rfl, by omega, ext_auto, upS hu hx (by unfold slotP; omega)⟩
  · (repeat' first|refine vs ?_|(refine br ?_ ?_<;>intro _<;>try(exfalso;first|omega|contradiction))|((with_reducible refine g_idx ?_);((first|refine ix ?_|refine ixi ?_|(refine ixg ?_;intro _ _)|(refine ixgi ?_;intro _ _));first|rintro _ _ _ _ _ ⟨rfl,rfl⟩ _|rintro _ _ _ _ _ ⟨_,rfl,_⟩ _|rintro _ _ _ _ _ ⟨_,_,_,_,rfl,rfl,_,_⟩ _|intro _ _ _ _ _ _ _))|(refine sx ?_;intro _ _)|((with_reducible refine g_awp ?_);simp only [g0,g1,g2]))
    rw [show i = l.length by omega] at hu
    exact pt (upAll hu)

/-! ### Which wheels may be -/
def isTid (k : Int) (t : Ab.Timer) : Bool := decide (t.id = k)
theorem s_timerAt_1 {h : AH} {b : Nat} {k : Int} (a : At h b 0 [.int .i64 k]) : Looks Ab.Timer Tryz.prog h n_impl_timerAt_1 [.ptr b 0] (isTid k) := by
  rintro x cs F ⟨rfl, rfl⟩
  refine reader (c_impl_timerAt_1 _ _) (by simp only [old]) ?_
  unfold p_impl_timerAt_1
  (repeat' first|refine vs ?_|(refine br ?_ ?_<;>intro _<;>try(exfalso;first|omega|contradiction))|((with_reducible refine g_idx ?_);((first|refine ix ?_|refine ixi ?_|(refine ixg ?_;intro _ _)|(refine ixgi ?_;intro _ _));first|rintro _ _ _ _ _ ⟨rfl,rfl⟩ _|rintro _ _ _ _ _ ⟨_,rfl,_⟩ _|rintro _ _ _ _ _ ⟨_,_,_,_,rfl,rfl,_,_⟩ _|intro _ _ _ _ _ _ _))|(refine sx ?_;intro _ _)|((with_reducible refine g_awp ?_);simp only [g0,g1,g2]))
  all_goals (refine pb ?_; simp [isTid, *])
theorem s_slices_IndexFunc_Timer {h : AH} {xs : List Ab.Timer} {x0 : AV} {F : List Nat} {f : FuncId} {caps : List AV} {p : Ab.Timer → Bool} (r : SlRep h x0 xs F) (hf : Looks Ab.Timer Tryz.prog h f caps p) :
    RCalls Tryz.prog n_slices_IndexFunc_Timer [x0, .fn f caps] h (.int .i64 (idx p xs)) :=
  reader (c_slices_IndexFunc_Timer _ _) (by simp only [old]) (idxF_spec (w := 3) rfl r hf)
theorem s_impl_timerAt {h : AH} {xs : List Ab.Timer} {x0 : AV} {F : List Nat} {k : Int} (r : SlRep h x0 xs F) : RCalls Tryz.prog n_impl_timerAt [x0, .int .i64 k] h (.int .i64 (idx (isTid k) xs)) := by
  refine reader (c_impl_timerAt _ _) (by simp only [old]) ?_
  unfold p_impl_timerAt
  (repeat' first|refine vs ?_|(refine br ?_ ?_<;>intro _<;>try(exfalso;first|omega|contradiction))|((with_reducible refine g_callf n_slices_IndexFunc_Timer ?_);refine aw_rcall (s_slices_IndexFunc_Timer slr_auto (s_timerAt_1 at_push)) ?_)|((with_reducible refine g_idx ?_);((first|refine ix ?_|refine ixi ?_|(refine ixg ?_;intro _ _)|(refine ixgi ?_;intro _ _));first|rintro _ _ _ _ _ ⟨rfl,rfl⟩ _|rintro _ _ _ _ _ ⟨_,rfl,_⟩ _|rintro _ _ _ _ _ ⟨_,_,_,_,rfl,rfl,_,_⟩ _|intro _ _ _ _ _ _ _))|(refine sx ?_;intro _ _)|((with_reducible refine g_awp ?_);simp only [g0,g1,g2]))
  exact pi rfl
def firstOf {α : Type} (f : α → Int) (l : List α) : Prop := ∀ (i : Nat) (x : α), l[i]? = some x → ∀ (j : Nat) (y : α), j < i → l[j]? = some y → f y ≠ f x
theorem idx_first {α : Type} {p : α → Bool} {l : List α} {i : Nat} {x : α} (hx : l[i]? = some x) (hp : p x = true) : idx p l = i ↔ ∀ (j : Nat) (y : α), j < i → l[j]? = some y → p y = false := by
  constructor
  · intro h j y hj hy
    rcases idx_cases p l with ⟨e, -⟩ | ⟨k, z, e, hz, hpz, hf⟩
    · omega
    · have : k = i := by omega
      subst this
      rw [List.filter_eq_self] at hf
      have hm : y ∈ l.take k := by
        rw [List.mem_iff_getElem?]
        exact ⟨j, by rw [List.getElem?_take, if_pos hj]; exact hy⟩
      simpa using hf y hm
  · exact fun h => idx_at hx hp h
def wheelOk (w : Wheel) : Prop := (0 ≤ w.now ∧ w.now ≤ 2147483647) ∧ (w.near.length : Int) = 8 ∧ (w.far.length : Int) = 8 ∧ (∀ t ∈ w.rest, slotP w.now 2 0 t) ∧
  (∀ (i : Nat) (a b : List Ab.Timer), w.near[i]? = some a → w.far[i]? = some b → (∀ t ∈ a, slotP w.now 0 i t) ∧ ∀ t ∈ b, slotP w.now 1 i t) ∧ firstOf (·.id) (timers w) ∧ ((timers w).length : Int) ≤ 16
theorem isTid_self (t : Ab.Timer) : isTid t.id t = true := by simp [isTid]
theorem s_impl_WheelOk {h : AH} {w : Wheel} {v0 v1 v2 : AV} {F0 F1 F2 : List Nat} (hs : Sz.sz w ≤ 67108864) (r0 : SlRep h v0 w.near F0) (r1 : SlRep h v1 w.far F1) (r2 : SlRep h v2 w.rest F2) : RCalls Tryz.prog n_impl_WheelOk [.agg (w.cs v0 v1 v2)] h (.bool (bp (wheelOk w))) := by
  refine reader (c_impl_WheelOk _) (by simp only [old]) ?_
  unfold p_impl_WheelOk
  (repeat' first|refine vs ?_|(refine br ?_ ?_<;>intro _<;>try(exfalso;first|omega|contradiction))|((with_reducible refine g_callf n_impl_within ?_);(refine aw_rcall_b s_impl_within ?_ ?_ <;> intro hb <;> (first | replace hb := inB_t hb | replace hb := inB_f hb)))|((with_reducible refine g_callf n_impl_belongs ?_);(refine aw_rcall_b (s_impl_belongs (w := w) (by omega) (by omega) (by omega) slr_auto) ?_ ?_ <;> intro hn <;> first | replace hn := bp_true hn | replace hn := bp_false hn))|((with_reducible refine g_idx ?_);((first|refine ix ?_|refine ixi ?_|(refine ixg ?_;intro _ _)|(refine ixgi ?_;intro _ _));first|rintro _ _ _ _ _ ⟨rfl,rfl⟩ _|rintro _ _ _ _ _ ⟨_,rfl,_⟩ _|rintro _ _ _ _ _ ⟨_,_,_,_,rfl,rfl,_,_⟩ _|intro _ _ _ _ _ _ _))|(refine sx ?_;intro _ _)|((with_reducible refine g_awp ?_);simp only [g0,g1,g2]))
  all_goals first
    | exact pf fun k => by obtain ⟨a1, a2, a3, a4, -⟩ := k; first | omega | contradiction
    | skip
  have hnow := hb
  have hrest := hn
  refine aw_upto 8 (fun i vs h1 => vs = [.int .i64 (i : Int)] ∧ i ≤ 8 ∧ Ext (h.push ⟨w.cs v0 v1 v2, 0, 0⟩) h1 ∧ ∀ (j : Nat) (a b : List Ab.Timer), j < i → w.near[j]? = some a → w.far[j]? = some b → (∀ t ∈ a, slotP w.now 0 j t) ∧ ∀ t ∈ b, slotP w.now 1 j t) ⟨rfl, Nat.zero_le _, ext_auto, fun j a b hj => by omega⟩ ?_
  rintro i vs h1 _ ⟨rfl, hi, e1, hu⟩
  simp only [g0]
  refine br (fun hlt => ?_) (fun hge => ?_)
  · obtain ⟨x, hx, -, -⟩ := drop_step (show i < w.near.length by omega)
    obtain ⟨y, hy, -, -⟩ := drop_step (show i < w.far.length by omega)
    (repeat' first|refine vs ?_|(refine br ?_ ?_<;>intro _<;>try(exfalso;first|omega|contradiction))|((with_reducible refine g_callf n_impl_belongs ?_);(refine aw_rcall_b (s_impl_belongs (w := w) (by omega) (by omega) (by omega) slr_auto) ?_ ?_ <;> intro hn <;> first | replace hn := bp_true hn | replace hn := bp_false hn))|((with_reducible refine g_idx ?_);((first|refine ix ?_|refine ixi ?_|(refine ixg ?_;intro _ _)|(refine ixgi ?_;intro _ _));first|rintro _ _ _ _ _ ⟨rfl,rfl⟩ _|rintro _ _ _ _ _ ⟨_,rfl,_⟩ _|rintro _ _ _ _ _ ⟨_,_,_,_,rfl,rfl,_,_⟩ _|intro _ _ _ _ _ _ _))|(refine sx ?_;intro _ _)|((with_reducible refine g_awp ?_);simp only [g0,g1,g2]))
    all_goals first
      | exact pf fun k => by have k := k.2.2.2.2.1 i x y hx hy; first | exact absurd k.1 (by assumption) | exact absurd k.2 (by assumption)
      | skip
    refine ⟨by omega, rfl, by omega, ext_auto, fun j a b hj ha hb => ?_⟩
    by_cases e : j = i
    · subst e; rw [hx] at ha; rw [hy] at hb; cases ha; cases hb
      exact ⟨by assumption, by assumption⟩
    · exact hu j a b (by omega) ha hb
  · (repeat' first|refine vs ?_|(refine br ?_ ?_<;>intro _<;>try(exfalso;first|omega|contradiction))|((with_reducible refine g_idx ?_);((first|refine ix ?_|refine ixi ?_|(refine ixg ?_;intro _ _)|(refine ixgi ?_;intro _ _));first|rintro _ _ _ _ _ ⟨rfl,rfl⟩ _|rintro _ _ _ _ _ ⟨_,rfl,_⟩ _|rintro _ _ _ _ _ ⟨_,_,_,_,rfl,rfl,_,_⟩ _|intro _ _ _ _ _ _ _))|(refine sx ?_;intro _ _)|((with_reducible refine g_awp ?_);simp only [g0,g1,g2]))
    refine aw_call (s_impl_Timers hs slr_auto slr_auto slr_auto) ?_
    rintro w1 h2 ⟨e2, G1, q1, o1⟩
    refine aw_len q1 ?_
    have hsm := q1.small
    refine aw_upto (timers w).length (fun i vs h3 => vs = [.int .i64 (i : Int)] ∧ i ≤ (timers w).length ∧ Ext h2 h3 ∧ Upto (timers w) (fun i x => ∀ (j : Nat) (y : Ab.Timer), j < i → (timers w)[j]? = some y → y.id ≠ x.id) i) ⟨rfl, Nat.zero_le _, Ext.refl _, up0⟩ ?_
    rintro k vs h3 _ ⟨rfl, hk, e3, hu3⟩
    simp only [g0]
    refine br (fun hlt => ?_) (fun hge3 => ?_)
    · obtain ⟨x, hx, -, -⟩ := drop_step (show k < (timers w).length by omega)
      have hf := idx_first hx (isTid_self x)
      refine vs ?_
      refine aw_idx q1 hx rfl ?_
      rintro b o _ Fi a ⟨rfl, rfl⟩ _
      (repeat' first|refine vs ?_|(refine br ?_ ?_<;>intro _<;>try(exfalso;first|omega|contradiction))|((with_reducible refine g_callf n_impl_timerAt ?_);refine aw_rcall (s_impl_timerAt slr_auto) ?_)|((with_reducible refine g_idx ?_);((first|refine ix ?_|refine ixi ?_|(refine ixg ?_;intro _ _)|(refine ixgi ?_;intro _ _));first|rintro _ _ _ _ _ ⟨rfl,rfl⟩ _|rintro _ _ _ _ _ ⟨_,rfl,_⟩ _|rintro _ _ _ _ _ ⟨_,_,_,_,rfl,rfl,_,_⟩ _|intro _ _ _ _ _ _ _))|(refine sx ?_;intro _ _)|((with_reducible refine g_awp ?_);simp only [g0,g1,g2]))
      · rename_i hne
        exact pf fun kk => hne (hf.2 fun j y hj hy => by have := kk.2.2.2.2.2.1 k x hx j y hj hy; simpa [isTid] using this)
      · rename_i heq
        exact ⟨by omega, rfl, by omega, ext_auto, upS hu3 hx fun j y hj hy => by have := hf.1 heq j y hj hy; simpa [isTid] using this⟩
    · rw [show k = (timers w).length by omega] at hu3
      have hu3 := upEnd hu3
      (repeat' first|refine vs ?_|(refine br ?_ ?_<;>intro _<;>try(exfalso;first|omega|contradiction))|((with_reducible refine g_idx ?_);((first|refine ix ?_|refine ixi ?_|(refine ixg ?_;intro _ _)|(refine ixgi ?_;intro _ _));first|rintro _ _ _ _ _ ⟨rfl,rfl⟩ _|rintro _ _ _ _ _ ⟨_,rfl,_⟩ _|rintro _ _ _ _ _ ⟨_,_,_,_,rfl,rfl,_,_⟩ _|intro _ _ _ _ _ _ _))|(refine sx ?_;intro _ _)|((with_reducible refine g_awp ?_);simp only [g0,g1,g2]))
      · exact pt ⟨hnow, by omega, by omega, hrest, fun i' a b ha hb => hu i' a b (by have := (List.getElem?_eq_some_iff.1 ha).1; omega) ha hb, hu3, by omega⟩
      · exact pf fun kk => by have := kk.2.2.2.2.2.2; omega
theorem s_spec_WheelOk {h : AH} {w : Wheel} {v0 v1 v2 : AV} {F0 F1 F2 : List Nat} (hs : Sz.sz w ≤ 67108864) (r0 : SlRep h v0 w.near F0) (r1 : SlRep h v1 w.far F1) (r2 : SlRep h v2 w.rest F2) : RCalls Tryz.prog n_spec_WheelOk [.agg (w.cs v0 v1 v2)] h (.bool (bp (wheelOk w))) := by
  refine reader (c_spec_WheelOk _) (by simp only [old]) ?_
  unfold p_spec_WheelOk
  (repeat' first|refine vs ?_|(refine br ?_ ?_<;>intro _<;>try(exfalso;first|omega|contradiction))|((with_reducible refine g_callf n_spec_l1In ?_);(refine aw_rcall_b s_spec_l1In ?_ ?_ <;> intro hb <;> (first | replace hb := inB_t hb | replace hb := inB_f hb)))|((with_reducible refine g_callf n_spec_l8Slot ?_);(refine aw_rcall_b (s_spec_l8Slot (w := w) (kind := 2) (by omega) (by omega) (by omega) (by rfl) slr_auto) ?_ ?_ <;> intro hn <;> first | replace hn := bp_true hn | replace hn := bp_false hn))|((with_reducible refine g_idx ?_);((first|refine ix ?_|refine ixi ?_|(refine ixg ?_;intro _ _)|(refine ixgi ?_;intro _ _));first|rintro _ _ _ _ _ ⟨rfl,rfl⟩ _|rintro _ _ _ _ _ ⟨_,rfl,_⟩ _|rintro _ _ _ _ _ ⟨_,_,_,_,rfl,rfl,_,_⟩ _|intro _ _ _ _ _ _ _))|(refine sx ?_;intro _ _)|((with_reducible refine g_awp ?_);simp only [g0,g1,g2]))
  all_goals first
    | exact pf fun k => by obtain ⟨a1, a2, a3, a4, -⟩ := k; first | omega | contradiction
    | skip
  have hnow := hb
  have hrest := hn
  refine aw_upto 8 (fun i vs h1 => vs = [.int .i64 (i : Int)] ∧ i ≤ 8 ∧ Ext (h.push ⟨w.cs v0 v1 v2, 0, 0⟩) h1 ∧ ∀ (j : Nat) (a b : List Ab.Timer), j < i → w.near[j]? = some a → w.far[j]? = some b → (∀ t ∈ a, slotP w.now 0 j t) ∧ ∀ t ∈ b, slotP w.now 1 j t) ⟨rfl, Nat.zero_le _, ext_auto, fun j a b hj => by omega⟩ ?_
  rintro i vs h1 _ ⟨rfl, hi, e1, hu⟩
  simp only [g0]
  refine br (fun hlt => ?_) (fun hge => ?_)
  · obtain ⟨x, hx, -, -⟩ := drop_step (show i < w.near.length by omega)
    obtain ⟨y, hy, -, -⟩ := drop_step (show i < w.far.length by omega)
    (repeat' first|refine vs ?_|(refine br ?_ ?_<;>intro _<;>try(exfalso;first|omega|contradiction))|((with_reducible refine g_callf n_spec_l8Slot ?_);((first | refine aw_rcall_b (s_spec_l8Slot (w := w) (kind := 0) (l := x) (by omega) (by omega) (by omega) (by rfl) slr_auto) ?_ ?_ | refine aw_rcall_b (s_spec_l8Slot (w := w) (kind := 1) (l := y) (by omega) (by omega) (by omega) (by rfl) slr_auto) ?_ ?_) <;> intro hn <;> first | replace hn := bp_true hn | replace hn := bp_false hn))|((with_reducible refine g_idx ?_);((first|refine ix ?_|refine ixi ?_|(refine ixg ?_;intro _ _)|(refine ixgi ?_;intro _ _));first|rintro _ _ _ _ _ ⟨rfl,rfl⟩ _|rintro _ _ _ _ _ ⟨_,rfl,_⟩ _|rintro _ _ _ _ _ ⟨_,_,_,_,rfl,rfl,_,_⟩ _|intro _ _ _ _ _ _ _))|(refine sx ?_;intro _ _)|((with_reducible refine g_awp ?_);simp only [g0,g1,g2]))
    all_goals first
      | exact pf fun k => by have k := k.2.2.2.2.1 i x y hx hy; first | exact absurd k.1 (by assumption) | exact absurd k.2 (by assumption)
      | skip
    refine ⟨by omega, rfl, by omega, ext_auto, fun j a b hj ha hb => ?_⟩
    by_cases e : j = i
    · subst e; rw [hx] at ha; rw [hy] at hb; cases ha; cases hb
      exact ⟨by assumption, by assumption⟩
    · exact hu j a b (by omega) ha hb
  · (repeat' first|refine vs ?_|(refine br ?_ ?_<;>intro _<;>try(exfalso;first|omega|contradiction))|((with_reducible refine g_idx ?_);((first|refine ix ?_|refine ixi ?_|(refine ixg ?_;intro _ _)|(refine ixgi ?_;intro _ _));first|rintro _ _ _ _ _ ⟨rfl,rfl⟩ _|rintro _ _ _ _ _ ⟨_,rfl,_⟩ _|rintro _ _ _ _ _ ⟨_,_,_,_,rfl,rfl,_,_⟩ _|intro _ _ _ _ _ _ _))|(refine sx ?_;intro _ _)|((with_reducible refine g_awp ?_);simp only [g0,g1,g2]))
    refine aw_call (s_spec_Timers hs slr_auto slr_auto slr_auto) ?_
    rintro w1 h2 ⟨e2, G1, q1, o1⟩
    have hsm := q1.small
    refine aw_upto (timers w).length (fun i vs h3 => ∃ z, vs = [.int .i64 (i : Int), z] ∧ i ≤ (timers w).length ∧ h3 = h2 ∧ Upto (timers w) (fun i x => ∀ (j : Nat) (y : Ab.Timer), j < i → (timers w)[j]? = some y → y.id ≠ x.id) i) ⟨_, rfl, Nat.zero_le _, rfl, up0⟩ ?_
    rintro k vs h3 _ ⟨z, rfl, hk, rfl, hu3⟩
    simp only [g0]
    refine aw_len q1 ?_
    refine br (fun hlt => ?_) (fun hge3 => ?_)
    · obtain ⟨x, hx, -, -⟩ := drop_step (show k < (timers w).length by omega)
      refine aw_ite_t ?_
      refine aw_upto k (fun j vs h4 => vs = [.int .i64 (j : Int)] ∧ j ≤ k ∧ h4 = h3 ∧ ∀ (m : Nat) (y : Ab.Timer), m < j → (timers w)[m]? = some y → y.id ≠ x.id) ⟨rfl, Nat.zero_le _, rfl, fun m y hm => by omega⟩ ?_
      rintro j vs h4 _ ⟨rfl, hj, rfl, hu4⟩
      simp only [g0]
      refine br (fun hlt4 => ?_) (fun hge4 => ?_)
      · obtain ⟨y, hy, -, -⟩ := drop_step (show j < (timers w).length by omega)
        (repeat' first|refine vs ?_|(refine br ?_ ?_<;>intro _<;>try(exfalso;first|omega|contradiction))|((with_reducible refine g_idx ?_);((first|refine ix ?_|refine ixi ?_|(refine ixg ?_;intro _ _)|(refine ixgi ?_;intro _ _));first|rintro _ _ _ _ _ ⟨rfl,rfl⟩ _|rintro _ _ _ _ _ ⟨_,rfl,_⟩ _|rintro _ _ _ _ _ ⟨_,_,_,_,rfl,rfl,_,_⟩ _|intro _ _ _ _ _ _ _))|(refine sx ?_;intro _ _)|((with_reducible refine g_awp ?_);simp only [g0,g1,g2]))
        · rename_i he
          exact pf fun kk => kk.2.2.2.2.2.1 k x hx j y (by omega) hy he
        · rename_i he
          refine ⟨by omega, rfl, by omega, rfl, fun m z hm hz => ?_⟩
          by_cases e : m = j
          · subst e; rw [hy] at hz; cases hz; exact he
          · exact hu4 m z (by omega) hz
      · have e : j = k := by omega
        subst e
        (repeat' first|refine vs ?_|(refine br ?_ ?_<;>intro _<;>try(exfalso;first|omega|contradiction))|((with_reducible refine g_idx ?_);((first|refine ix ?_|refine ixi ?_|(refine ixg ?_;intro _ _)|(refine ixgi ?_;intro _ _));first|rintro _ _ _ _ _ ⟨rfl,rfl⟩ _|rintro _ _ _ _ _ ⟨_,rfl,_⟩ _|rintro _ _ _ _ _ ⟨_,_,_,_,rfl,rfl,_,_⟩ _|intro _ _ _ _ _ _ _))|(refine sx ?_;intro _ _)|((with_reducible refine g_awp ?_);simp only [g0,g1,g2]))
        exact ⟨by omega, _, rfl, by omega, rfl, upS hu3 hx hu4⟩
    · rw [show k = (timers w).length by omega] at hu3
      have hu3 := upEnd hu3
      (repeat' first|refine vs ?_|(refine br ?_ ?_<;>intro _<;>try(exfalso;first|omega|contradiction))|((with_reducible refine g_idx ?_);((first|refine ix ?_|refine ixi ?_|(refine ixg ?_;intro _ _)|(refine ixgi ?_;intro _ _));first|rintro _ _ _ _ _ ⟨rfl,rfl⟩ _|rintro _ _ _ _ _ ⟨_,rfl,_⟩ _|rintro _ _ _ _ _ ⟨_,_,_,_,rfl,rfl,_,_⟩ _|intro _ _ _ _ _ _ _))|(refine sx ?_;intro _ _)|((with_reducible refine g_awp ?_);simp only [g0,g1,g2]))
      · exact pt ⟨hnow, by omega, by omega, hrest, fun i' a b ha hb => hu i' a b (by have := (List.getElem?_eq_some_iff.1 ha).1; omega) ha hb, hu3, by omega⟩
      · exact pf fun kk => by have := kk.2.2.2.2.2.2; omega
end Go.Proofs.YtekfdoknfcedpaaGreat
end
section
/- What is remembered, buckets, items: which may be. -/
set_option linter.unusedSimpArgs false
set_option linter.unusedVariables false
set_option maxHeartbeats 2000000
namespace Go.Proofs.YtekfdoknfcedpaaGreat
open Go Go.Ab
section
/- impl.verdictAt$1 -/
def p_impl_verdictAt_1 (x0 x1 : AV) : Prog := .op (.box x0) fun a=>Lg 0 a fun a=>.op (.ld1 x1) fun b=>Bn .eql a b fun a=>.fin [.val a]
theorem c_impl_verdictAt_1 (x0 x1 : AV) : CC Tryz.prog n_impl_verdictAt_1 [x0, x1] (p_impl_verdictAt_1 x0 x1) := cc Tryz.func301
/- slices.IndexFunc[[]impl.Verdict,impl.Verdict] -/
def p_slices_IndexFunc_Verdict (x0 x1 : AV) : Prog := Ln 0 x0 fun a=>.loop [.int .i64 0] (fun b=>Bn .lss (g b 0) a fun a=>.ite a (Ix 3 x0 (g b 0) fun a=>Ld 3 a fun a=>.op (.callv x1 [a]) fun a=>.ite a (.fin [.val (g b 0)]) (Bn .add (g b 0) (.int .i64 1) fun a=>.leaf 0 [a])) (.leaf 2 [g b 0])) fun a b=>tsel a 1 (.leaf 1 b) (tsel a 2 (.fin [.val (.int .i64 (-1))]) .bad)
theorem c_slices_IndexFunc_Verdict (x0 x1 : AV) : CC Tryz.prog n_slices_IndexFunc_Verdict [x0, x1] (p_slices_IndexFunc_Verdict x0 x1) := cc Tryz.func300 [0, 1, 7, 8] (fun _ => [])
/- impl.verdictAt -/
def p_impl_verdictAt (x0 x1 : AV) : Prog := .op (.box x1) fun a=>.op (.mkfn n_impl_verdictAt_1 [a]) fun a=>Cl n_slices_IndexFunc_Verdict [x0, a] fun a=>.fin [.val a]
theorem c_impl_verdictAt (x0 x1 : AV) : CC Tryz.prog n_impl_verdictAt [x0, x1] (p_impl_verdictAt x0 x1) := cc Tryz.func238
/- impl.CacheOk -/
def p_impl_CacheOk (x0 x1 : AV) : Prog := Ln 0 x0 fun a=>.loop [.int .i64 0] (fun b=>Bn .lss (g b 0) a fun a=>.ite a (Ix 3 x0 (g b 0) fun a=>Ld 3 a fun a=>.op (.alloc [.int .i64 0, .int .i64 0, .bool false]) fun c=>.op (.st 3 c a) fun _=>Lg 0 c fun a=>Cl n_impl_within [a, .int .i64 1, .int .i64 999] fun a=>.op (.una .not a) fun a=>Gf a false 1 c fun d=>.gop a false (.bin 0 .lss d (.int .i64 1)) fun d=>Pk a (.bool true) d fun a=>.gop a false (.mv x0) fun d=>Gf a false 0 c fun c=>.gop a false (.call n_impl_verdictAt [d, c]) fun c=>.gop a false (.mv (g b 0)) fun d=>.gop a false (.bin 0 .neq c d) fun c=>Pk a (.bool true) c fun a=>.ite a (.fin [.val (.bool false)]) (Bn .add (g b 0) (.int .i64 1) fun a=>.leaf 0 [a])) (.leaf 2 [g b 0])) fun a b=>tsel a 1 (.leaf 1 b) (tsel a 2 (Ln 0 x0 fun a=>Bn .leq a x1 fun a=>.fin [.val a]) .bad)
theorem c_impl_CacheOk (x0 x1 : AV) : CC Tryz.prog n_impl_CacheOk [x0, x1] (p_impl_CacheOk x0 x1) := cc Tryz.func200 [0, 1, 7, 8, 9] (fun _ => [])
/- spec.CacheOk -/
def p_spec_CacheOk (x0 x1 : AV) : Prog := .loop [.int .i64 0, .tup []] (fun a=>Ln 0 x0 fun b=>Bn .lss (g a 0) b fun b=>.ite b (Ix 3 x0 (g a 0) fun b=>Lg 0 b fun b=>Cl n_spec_l1In [b, .int .i64 1, .int .i64 999] fun b=>.op (.una .not b) fun b=>.gop b false (.mv x0) fun c=>.gop b false (.mv (g a 0)) fun d=>.gop b false (.idx 3 c d) fun c=>Gf b false 1 c fun c=>.gop b false (.bin 0 .lss c (.int .i64 1)) fun c=>Pk b (.bool true) c fun b=>.ite b (.fin [.val (.bool false)]) (.loop [.int .i64 0] (fun b=>Bn .lss (g b 0) (g a 0) fun c=>.ite c (Ix 3 x0 (g b 0) fun c=>Lg 0 c fun c=>Ix 3 x0 (g a 0) fun a=>Lg 0 a fun a=>Bn .eql c a fun a=>.ite a (.fin [.val (.bool false)]) (Bn .add (g b 0) (.int .i64 1) fun a=>.leaf 0 [a])) (.leaf 4 [g b 0])) fun b c=>tsel b 1 (.leaf 1 c) (tsel b 4 (Bn .add (g a 0) (.int .i64 1) fun a=>.leaf 0 [a, g c 0]) .bad))) (.leaf 2 [g a 0, g a 1])) fun a b=>tsel a 1 (.leaf 1 b) (tsel a 2 (Ln 0 x0 fun a=>Bn .leq a x1 fun a=>.fin [.val a]) .bad)
theorem c_spec_CacheOk (x0 x1 : AV) : CC Tryz.prog n_spec_CacheOk [x0, x1] (p_spec_CacheOk x0 x1) := cc Tryz.func100 [0, 1, 5, 6] (fun r => if r = 9 then [(0, []), (1, []), (2, []), (3, []), (4, []), (5, []), (6, []), (7, []), (8, []), (9, []), (10, [])] else [])
/- impl.BucketOk -/
def p_impl_BucketOk (x0 : AV) : Prog := .op (.box x0) fun a=>Lg 0 a fun b=>Cl n_impl_within [b, .int .i64 0, .int .i64 99] fun b=>Gf b true 1 a fun c=>.gop b true (.call n_impl_within [c, .int .i64 0, .int .i64 999]) fun c=>Pk b c (.bool false) fun b=>Gf b true 2 a fun c=>Gf b true 1 a fun d=>.gop b true (.call n_impl_within [c, .int .i64 0, d]) fun c=>Pk b c (.bool false) fun b=>Gf b true 3 a fun a=>.gop b true (.call n_impl_within [a, .int .i64 0, .int .i64 2147483647]) fun a=>Pk b a (.bool false) fun a=>.fin [.val a]
theorem c_impl_BucketOk (x0 : AV) : CC Tryz.prog n_impl_BucketOk [x0] (p_impl_BucketOk x0) := cc Tryz.func199
/- spec.BucketOk -/
def p_spec_BucketOk (x0 : AV) : Prog := .op (.box x0) fun a=>Lg 0 a fun b=>Cl n_spec_l1In [b, .int .i64 0, .int .i64 99] fun b=>Gf b true 1 a fun c=>.gop b true (.call n_spec_l1In [c, .int .i64 0, .int .i64 999]) fun c=>Pk b c (.bool false) fun b=>Gf b true 2 a fun c=>Gf b true 1 a fun d=>.gop b true (.call n_spec_l1In [c, .int .i64 0, d]) fun c=>Pk b c (.bool false) fun b=>Gf b true 3 a fun a=>.gop b true (.call n_spec_l1In [a, .int .i64 0, .int .i64 2147483647]) fun a=>Pk b a (.bool false) fun a=>.fin [.val a]
theorem c_spec_BucketOk (x0 : AV) : CC Tryz.prog n_spec_BucketOk [x0] (p_spec_BucketOk x0) := cc Tryz.func99
/- impl.itemsOk$1 -/
def p_impl_itemsOk_1 (x0 : AV) : Prog := .op (.box x0) fun a=>Ld 7 a fun a=>Cl n_impl_ItemOk [a] fun a=>.op (.una .not a) fun a=>.fin [.val a]
theorem c_impl_itemsOk_1 (x0 : AV) : CC Tryz.prog n_impl_itemsOk_1 [x0] (p_impl_itemsOk_1 x0) := cc Tryz.func271
/- slices.IndexFunc[[]impl.Item,impl.Item] -/
def p_slices_IndexFunc_Item (x0 x1 : AV) : Prog := Ln 0 x0 fun a=>.loop [.int .i64 0] (fun b=>Bn .lss (g b 0) a fun a=>.ite a (Ix 7 x0 (g b 0) fun a=>Ld 7 a fun a=>.op (.callv x1 [a]) fun a=>.ite a (.fin [.val (g b 0)]) (Bn .add (g b 0) (.int .i64 1) fun a=>.leaf 0 [a])) (.leaf 2 [g b 0])) fun a b=>tsel a 1 (.leaf 1 b) (tsel a 2 (.fin [.val (.int .i64 (-1))]) .bad)
theorem c_slices_IndexFunc_Item (x0 x1 : AV) : CC Tryz.prog n_slices_IndexFunc_Item [x0, x1] (p_slices_IndexFunc_Item x0 x1) := cc Tryz.func317 [0, 1, 7, 8] (fun _ => [])
/- slices.ContainsFunc[[]impl.Item,impl.Item] -/
def p_slices_ContainsFunc_Item (x0 x1 : AV) : Prog := Cl n_slices_IndexFunc_Item [x0, x1] fun a=>Bn .geq a (.int .i64 0) fun a=>.fin [.val a]
theorem c_slices_ContainsFunc_Item (x0 x1 : AV) : CC Tryz.prog n_slices_ContainsFunc_Item [x0, x1] (p_slices_ContainsFunc_Item x0 x1) := cc Tryz.func270
/- impl.itemsOk -/
def p_impl_itemsOk (x0 : AV) : Prog := .op (.call n_slices_ContainsFunc_Item [x0, .fn n_impl_itemsOk_1 []]) fun a=>.op (.una .not a) fun a=>.fin [.val a]
theorem c_impl_itemsOk (x0 : AV) : CC Tryz.prog n_impl_itemsOk [x0] (p_impl_itemsOk x0) := cc Tryz.func202
end
def isT (k : Int) (v : Verdict) : Bool := decide (v.trace = k)
theorem s_verdictAt_1 {h : AH} {b : Nat} {k : Int} (a : At h b 0 [.int .i64 k]) : Looks Verdict Tryz.prog h n_impl_verdictAt_1 [.ptr b 0] (isT k) := by
  rintro x cs F ⟨rfl, rfl⟩
  refine reader (c_impl_verdictAt_1 _ _) (by simp only [old]) ?_
  unfold p_impl_verdictAt_1
  (repeat' first|refine vs ?_|(refine br ?_ ?_<;>intro _<;>try(exfalso;first|omega|contradiction))|((with_reducible refine g_idx ?_);((first|refine ix ?_|refine ixi ?_|(refine ixg ?_;intro _ _)|(refine ixgi ?_;intro _ _));first|rintro _ _ _ _ _ ⟨rfl,rfl⟩ _|rintro _ _ _ _ _ ⟨_,rfl,_⟩ _|rintro _ _ _ _ _ ⟨_,_,_,_,rfl,rfl,_,_⟩ _|intro _ _ _ _ _ _ _))|(refine sx ?_;intro _ _)|((with_reducible refine g_awp ?_);simp only [g0,g1,g2]))
  all_goals (refine pb ?_; simp [isT, *])
theorem s_slices_IndexFunc_Verdict {h : AH} {xs : List Verdict} {x0 : AV} {F : List Nat} {f : FuncId} {caps : List AV} {p : Verdict → Bool} (r : SlRep h x0 xs F) (hf : Looks Verdict Tryz.prog h f caps p) :
    RCalls Tryz.prog n_slices_IndexFunc_Verdict [x0, .fn f caps] h (.int .i64 (idx p xs)) :=
  reader (c_slices_IndexFunc_Verdict _ _) (by simp only [old]) (idxF_spec (w := 3) rfl r hf)
theorem s_impl_verdictAt {h : AH} {xs : List Verdict} {x0 : AV} {F : List Nat} {k : Int} (r : SlRep h x0 xs F) : RCalls Tryz.prog n_impl_verdictAt [x0, .int .i64 k] h (.int .i64 (idx (isT k) xs)) := by
  refine reader (c_impl_verdictAt _ _) (by simp only [old]) ?_
  unfold p_impl_verdictAt
  (repeat' first|refine vs ?_|(refine br ?_ ?_<;>intro _<;>try(exfalso;first|omega|contradiction))|((with_reducible refine g_callf n_slices_IndexFunc_Verdict ?_);refine aw_rcall (s_slices_IndexFunc_Verdict slr_auto (s_verdictAt_1 at_push)) ?_)|((with_reducible refine g_idx ?_);((first|refine ix ?_|refine ixi ?_|(refine ixg ?_;intro _ _)|(refine ixgi ?_;intro _ _));first|rintro _ _ _ _ _ ⟨rfl,rfl⟩ _|rintro _ _ _ _ _ ⟨_,rfl,_⟩ _|rintro _ _ _ _ _ ⟨_,_,_,_,rfl,rfl,_,_⟩ _|intro _ _ _ _ _ _ _))|(refine sx ?_;intro _ _)|((with_reducible refine g_awp ?_);simp only [g0,g1,g2]))
  exact pi rfl
def cAt (xs : List Verdict) (i : Nat) (v : Verdict) : Prop := (1 ≤ v.trace ∧ v.trace ≤ 999) ∧ 1 ≤ v.stamp ∧ ∀ j u, j < i → xs[j]? = some u → u.trace ≠ v.trace
def cOk (xs : List Verdict) (k : Int) : Prop := (∀ i v, xs[i]? = some v → cAt xs i v) ∧ (xs.length : Int) ≤ k
theorem idx_firstT {xs : List Verdict} {i : Nat} {x : Verdict} (hx : xs[i]? = some x) : idx (isT x.trace) xs = i ↔ ∀ j u, j < i → xs[j]? = some u → u.trace ≠ x.trace := by
  constructor
  · intro h j u hj hu he
    unfold idx at h
    split at h
    · have : j < xs.findIdx (isT x.trace) := by omega
      have := List.not_of_lt_findIdx this
      have hj' := (List.getElem?_eq_some_iff.1 hu)
      rw [hj'.2] at this
      simp [isT, he] at this
    · omega
  · intro h
    exact idx_at hx (by simp [isT]) fun j u hj hu => by simpa [isT] using h j u hj hu
theorem s_impl_CacheOk {h : AH} {xs : List Verdict} {x0 : AV} {F : List Nat} {k : Int} (r : SlRep h x0 xs F) : RCalls Tryz.prog n_impl_CacheOk [x0, .int .i64 k] h (.bool (bp (cOk xs k))) := by
  refine reader (c_impl_CacheOk _ _) (by simp only [old]) ?_
  unfold p_impl_CacheOk
  have hsm := r.small
  refine aw_len r (aw_upto xs.length (fun i vs h1 => vs = [.int .i64 (i : Int)] ∧ i ≤ xs.length ∧ Ext h h1 ∧ Upto xs (cAt xs) i) ⟨rfl, Nat.zero_le _, Ext.refl _, up0⟩ ?_)
  rintro i vs h1 _ ⟨rfl, hi, e1, hu⟩
  simp only [g0]
  refine br (fun hlt => ?_) (fun hge => ?_)
  · obtain ⟨x, hx, -, -⟩ := drop_step (show i < xs.length by omega)
    have hf := idx_firstT hx
    (repeat' first|refine vs ?_|(refine br ?_ ?_<;>intro _<;>try(exfalso;first|omega|contradiction))|((with_reducible refine g_callf n_impl_within ?_);(refine aw_rcall_b s_impl_within ?_ ?_ <;> intro hb <;> (first | replace hb := inB_t hb | replace hb := inB_f hb)))|((with_reducible refine g_callf n_impl_verdictAt ?_);refine aw_rcall (s_impl_verdictAt slr_auto) ?_)|((with_reducible refine g_idx ?_);((first|refine ix ?_|refine ixi ?_|(refine ixg ?_;intro _ _)|(refine ixgi ?_;intro _ _));first|rintro _ _ _ _ _ ⟨rfl,rfl⟩ _|rintro _ _ _ _ _ ⟨_,rfl,_⟩ _|rintro _ _ _ _ _ ⟨_,_,_,_,rfl,rfl,_,_⟩ _|intro _ _ _ _ _ _ _))|(refine sx ?_;intro _ _)|((with_reducible refine g_awp ?_);simp only [g0,g1,g2]))
    all_goals first
      | exact ⟨by omega, rfl, by omega, ext_auto, upS hu hx ⟨by omega, by omega, hf.1 (by assumption)⟩⟩
      | (refine pf fun k => ?_; obtain ⟨a1, a2, a3⟩ := k.1 i x hx; first | omega | (have := hf.2 a3; contradiction))
  · rw [show i = xs.length by omega] at hu
    have hu := upEnd hu
    (repeat' first|refine vs ?_|(refine br ?_ ?_<;>intro _<;>try(exfalso;first|omega|contradiction))|((with_reducible refine g_idx ?_);((first|refine ix ?_|refine ixi ?_|(refine ixg ?_;intro _ _)|(refine ixgi ?_;intro _ _));first|rintro _ _ _ _ _ ⟨rfl,rfl⟩ _|rintro _ _ _ _ _ ⟨_,rfl,_⟩ _|rintro _ _ _ _ _ ⟨_,_,_,_,rfl,rfl,_,_⟩ _|intro _ _ _ _ _ _ _))|(refine sx ?_;intro _ _)|((with_reducible refine g_awp ?_);simp only [g0,g1,g2]))
    all_goals first
      | exact pt ⟨hu, by omega⟩
      | exact pf fun k => by have := k.2; omega
theorem s_spec_CacheOk {h : AH} {xs : List Verdict} {x0 : AV} {F : List Nat} {k : Int} (r : SlRep h x0 xs F) : RCalls Tryz.prog n_spec_CacheOk [x0, .int .i64 k] h (.bool (bp (cOk xs k))) := by
  refine reader (c_spec_CacheOk _ _) (by simp only [old]) ?_
  unfold p_spec_CacheOk
  have hsm := r.small
  refine aw_upto xs.length (fun i vs h1 => ∃ z, vs = [.int .i64 (i : Int), z] ∧ i ≤ xs.length ∧ h1 = h ∧ Upto xs (cAt xs) i) ⟨_, rfl, Nat.zero_le _, rfl, up0⟩ ?_
  rintro i vs h1 _ ⟨z, rfl, hi, rfl, hu⟩
  simp only [g0, g1]
  refine aw_len r ?_
  refine br (fun hlt => ?_) (fun hge => ?_)
  · obtain ⟨x, hx, -, -⟩ := drop_step (show i < xs.length by omega)
    refine aw_ite_t ?_
    (repeat' first|refine vs ?_|(refine br ?_ ?_<;>intro _<;>try(exfalso;first|omega|contradiction))|((with_reducible refine g_callf n_spec_l1In ?_);(refine aw_rcall_b s_spec_l1In ?_ ?_ <;> intro hb <;> (first | replace hb := inB_t hb | replace hb := inB_f hb)))|((with_reducible refine g_idx ?_);((first|refine ix ?_|refine ixi ?_|(refine ixg ?_;intro _ _)|(refine ixgi ?_;intro _ _));first|rintro _ _ _ _ _ ⟨rfl,rfl⟩ _|rintro _ _ _ _ _ ⟨_,rfl,_⟩ _|rintro _ _ _ _ _ ⟨_,_,_,_,rfl,rfl,_,_⟩ _|intro _ _ _ _ _ _ _))|(refine sx ?_;intro _ _)|((with_reducible refine g_awp ?_);simp only [g0,g1,g2]))
    all_goals first
      | (refine pf fun k => ?_; obtain ⟨a1, a2, a3⟩ := k.1 i x hx; omega)
      | skip
    refine aw_upto i (fun j vs h4 => vs = [.int .i64 (j : Int)] ∧ j ≤ i ∧ h4 = h1 ∧ ∀ (m : Nat) (y : Verdict), m < j → xs[m]? = some y → y.trace ≠ x.trace) ⟨rfl, Nat.zero_le _, rfl, fun m y hm => by omega⟩ ?_
    rintro j vs h4 _ ⟨rfl, hj, rfl, hu4⟩
    simp only [g0]
    refine br (fun hlt4 => ?_) (fun hge4 => ?_)
    · obtain ⟨y, hy, -, -⟩ := drop_step (show j < xs.length by omega)
      (repeat' first|refine vs ?_|(refine br ?_ ?_<;>intro _<;>try(exfalso;first|omega|contradiction))|((with_reducible refine g_idx ?_);((first|refine ix ?_|refine ixi ?_|(refine ixg ?_;intro _ _)|(refine ixgi ?_;intro _ _));first|rintro _ _ _ _ _ ⟨rfl,rfl⟩ _|rintro _ _ _ _ _ ⟨_,rfl,_⟩ _|rintro _ _ _ _ _ ⟨_,_,_,_,rfl,rfl,_,_⟩ _|intro _ _ _ _ _ _ _))|(refine sx ?_;intro _ _)|((with_reducible refine g_awp ?_);simp only [g0,g1,g2]))
      · rename_i he
        exact pf fun kk => (kk.1 i x hx).2.2 j y (by omega) hy he
      · rename_i he
        refine ⟨by omega, rfl, by omega, rfl, fun m z hm hz => ?_⟩
        by_cases e : m = j
        · subst e; rw [hy] at hz; cases hz; exact he
        · exact hu4 m z (by omega) hz
    · have e : j = i := by omega
      subst e
      (repeat' first|refine vs ?_|(refine br ?_ ?_<;>intro _<;>try(exfalso;first|omega|contradiction))|((with_reducible refine g_idx ?_);((first|refine ix ?_|refine ixi ?_|(refine ixg ?_;intro _ _)|(refine ixgi ?_;intro _ _));first|rintro _ _ _ _ _ ⟨rfl,rfl⟩ _|rintro _ _ _ _ _ ⟨_,rfl,_⟩ _|rintro _ _ _ _ _ ⟨_,_,_,_,rfl,rfl,_,_⟩ _|intro _ _ _ _ _ _ _))|(refine sx ?_;intro _ _)|((with_reducible refine g_awp ?_);simp only [g0,g1,g2]))
      exact ⟨by omega, _, rfl, by omega, rfl, upS hu hx ⟨by omega, by omega, hu4⟩⟩
  · rw [show i = xs.length by omega] at hu
    have hu := upEnd hu
    (repeat' first|refine vs ?_|(refine br ?_ ?_<;>intro _<;>try(exfalso;first|omega|contradiction))|((with_reducible refine g_idx ?_);((first|refine ix ?_|refine ixi ?_|(refine ixg ?_;intro _ _)|(refine ixgi ?_;intro _ _));first|rintro _ _ _ _ _ ⟨rfl,rfl⟩ _|rintro _ _ _ _ _ ⟨_,rfl,_⟩ _|rintro _ _ _ _ _ ⟨_,_,_,_,rfl,rfl,_,_⟩ _|intro _ _ _ _ _ _ _))|(refine sx ?_;intro _ _)|((with_reducible refine g_awp ?_);simp only [g0,g1,g2]))
    all_goals first
      | exact pt ⟨hu, by omega⟩
      | exact pf fun k => by have := k.2; omega

/-! ### Buckets -/
def bucketOk (b : Bucket) : Prop := (0 ≤ b.rate ∧ b.rate ≤ 99) ∧ (0 ≤ b.burst ∧ b.burst ≤ 999) ∧ (0 ≤ b.tokens ∧ b.tokens ≤ b.burst) ∧ (0 ≤ b.at_ ∧ b.at_ ≤ 2147483647)
theorem s_impl_BucketOk {h : AH} {b : Bucket} : RCalls Tryz.prog n_impl_BucketOk [.agg b.cs] h (.bool (bp (bucketOk b))) := by
  refine reader (c_impl_BucketOk _) (by simp only [old, Bucket.cs, olds, and_self]) ?_
  unfold p_impl_BucketOk
  (repeat' first|refine vs ?_|(refine br ?_ ?_<;>intro _<;>try(exfalso;first|omega|contradiction))|((with_reducible refine g_callf n_impl_within ?_);(refine aw_rcall_b s_impl_within ?_ ?_ <;> intro hb <;> (first | replace hb := inB_t hb | replace hb := inB_f hb)))|((with_reducible refine g_idx ?_);((first|refine ix ?_|refine ixi ?_|(refine ixg ?_;intro _ _)|(refine ixgi ?_;intro _ _));first|rintro _ _ _ _ _ ⟨rfl,rfl⟩ _|rintro _ _ _ _ _ ⟨_,rfl,_⟩ _|rintro _ _ _ _ _ ⟨_,_,_,_,rfl,rfl,_,_⟩ _|intro _ _ _ _ _ _ _))|(refine sx ?_;intro _ _)|((with_reducible refine g_awp ?_);simp only [g0,g1,g2]))
  all_goals first
    | exact pt (by unfold bucketOk; omega)
    | exact pf (by unfold bucketOk; omega)
theorem s_spec_BucketOk {h : AH} {b : Bucket} : RCalls Tryz.prog n_spec_BucketOk [.agg b.cs] h (.bool (bp (bucketOk b))) := by
  refine reader (c_spec_BucketOk _) (by simp only [old, Bucket.cs, olds, and_self]) ?_
  unfold p_spec_BucketOk
  (repeat' first|refine vs ?_|(refine br ?_ ?_<;>intro _<;>try(exfalso;first|omega|contradiction))|((with_reducible refine g_callf n_spec_l1In ?_);(refine aw_rcall_b s_spec_l1In ?_ ?_ <;> intro hb <;> (first | replace hb := inB_t hb | replace hb := inB_f hb)))|((with_reducible refine g_idx ?_);((first|refine ix ?_|refine ixi ?_|(refine ixg ?_;intro _ _)|(refine ixgi ?_;intro _ _));first|rintro _ _ _ _ _ ⟨rfl,rfl⟩ _|rintro _ _ _ _ _ ⟨_,rfl,_⟩ _|rintro _ _ _ _ _ ⟨_,_,_,_,rfl,rfl,_,_⟩ _|intro _ _ _ _ _ _ _))|(refine sx ?_;intro _ _)|((with_reducible refine g_awp ?_);simp only [g0,g1,g2]))
  all_goals first
    | exact pt (by unfold bucketOk; omega)
    | exact pf (by unfold bucketOk; omega)

/-! ### Items -/
noncomputable def notIt (x : Itm) : Bool := !bp (itemOk x)
theorem s_itemsOk_1 {h : AH} {x : Itm} {v : AV} {F : List Nat} (ok : Cel.ok x.s) (hs : Sz.sz x.s ≤ 67108864) (r : SlRep h v x.s.attrs F) : RCalls Tryz.prog n_impl_itemsOk_1 [.agg (x.cs v)] h (.bool (notIt x)) := by
  refine reader (c_impl_itemsOk_1 _) (by simp only [old]) ?_
  unfold p_impl_itemsOk_1
  (repeat' first|refine vs ?_|(refine br ?_ ?_<;>intro _<;>try(exfalso;first|omega|contradiction))|((with_reducible refine g_callf n_impl_ItemOk ?_);refine aw_rcall (s_impl_ItemOk ok hs slr_auto) ?_)|((with_reducible refine g_idx ?_);((first|refine ix ?_|refine ixi ?_|(refine ixg ?_;intro _ _)|(refine ixgi ?_;intro _ _));first|rintro _ _ _ _ _ ⟨rfl,rfl⟩ _|rintro _ _ _ _ _ ⟨_,rfl,_⟩ _|rintro _ _ _ _ _ ⟨_,_,_,_,rfl,rfl,_,_⟩ _|intro _ _ _ _ _ _ _))|(refine sx ?_;intro _ _)|((with_reducible refine g_awp ?_);simp only [g0,g1,g2]))
  exact pb rfl
theorem s_slices_IndexFunc_Item {h : AH} {xs : List Itm} {x0 : AV} {F : List Nat} {f : FuncId} {caps : List AV} {p : Itm → Bool} (r : SlRep h x0 xs F) (hf : LooksI Itm Tryz.prog h f caps xs p) :
    RCalls Tryz.prog n_slices_IndexFunc_Item [x0, .fn f caps] h (.int .i64 (idx p xs)) :=
  reader (c_slices_IndexFunc_Item _ _) (by simp only [old]) (idxI_spec (w := 7) rfl r hf)
theorem idx_ge {α : Type} {p : α → Bool} {xs : List α} : 0 ≤ idx p xs ↔ ∃ x ∈ xs, p x = true := by
  rcases idx_cases p xs with ⟨e, hn⟩ | ⟨i, x, e, hx, hp, -⟩
  · constructor
    · intro h; omega
    · rintro ⟨x, hx, hp⟩
      have : x ∈ xs.filter (fun y => p y) := List.mem_filter.2 ⟨hx, hp⟩
      exact absurd hp (by simpa using (by first | exact hn x hx | simp_all))
  · exact ⟨fun _ => ⟨x, List.mem_of_getElem? hx, hp⟩, fun _ => by omega⟩
theorem s_slices_ContainsFunc_Item {h : AH} {xs : List Itm} {x0 : AV} {F : List Nat} {f : FuncId} {caps : List AV} {p : Itm → Bool} (r : SlRep h x0 xs F) (hf : LooksI Itm Tryz.prog h f caps xs p) :
    RCalls Tryz.prog n_slices_ContainsFunc_Item [x0, .fn f caps] h (.bool (bp (∃ x ∈ xs, p x = true))) := by
  refine reader (c_slices_ContainsFunc_Item _ _) (by simp only [old]) ?_
  unfold p_slices_ContainsFunc_Item
  (repeat' first|refine vs ?_|(refine br ?_ ?_<;>intro _<;>try(exfalso;first|omega|contradiction))|((with_reducible refine g_callf n_slices_IndexFunc_Item ?_);refine aw_rcall (s_slices_IndexFunc_Item slr_auto hf) ?_)|((with_reducible refine g_idx ?_);((first|refine ix ?_|refine ixi ?_|(refine ixg ?_;intro _ _)|(refine ixgi ?_;intro _ _));first|rintro _ _ _ _ _ ⟨rfl,rfl⟩ _|rintro _ _ _ _ _ ⟨_,rfl,_⟩ _|rintro _ _ _ _ _ ⟨_,_,_,_,rfl,rfl,_,_⟩ _|intro _ _ _ _ _ _ _))|(refine sx ?_;intro _ _)|((with_reducible refine g_awp ?_);simp only [g0,g1,g2]))
  · exact pt (idx_ge.1 (by assumption))
  · exact pf fun k => absurd (idx_ge.2 k) (by assumption)
theorem s_impl_itemsOk {h : AH} {xs : List Itm} {x0 : AV} {F : List Nat} (ok : ∀ x ∈ xs, Cel.ok x) (hs : xs.length + szs xs ≤ 67108864) (r : SlRep h x0 xs F) : RCalls Tryz.prog n_impl_itemsOk [x0] h (.bool (bp (∀ x ∈ xs, itemOk x))) := by
  refine reader (c_impl_itemsOk _) (by simp only [old]) ?_
  unfold p_impl_itemsOk
  have hl : LooksI Itm Tryz.prog h n_impl_itemsOk_1 [] xs notIt := by
    rintro x cs F hm ⟨v, rfl, rx⟩
    have hx := szs_mem hm
    have hx2 : Sz.sz x = Sz.sz x.s := rfl
    exact s_itemsOk_1 (ok x hm).2 (by omega) rx
  (repeat' first|refine vs ?_|(refine br ?_ ?_<;>intro _<;>try(exfalso;first|omega|contradiction))|((with_reducible refine g_callf n_slices_ContainsFunc_Item ?_);refine aw_rcall (s_slices_ContainsFunc_Item slr_auto hl) ?_)|((with_reducible refine g_idx ?_);((first|refine ix ?_|refine ixi ?_|(refine ixg ?_;intro _ _)|(refine ixgi ?_;intro _ _));first|rintro _ _ _ _ _ ⟨rfl,rfl⟩ _|rintro _ _ _ _ _ ⟨_,rfl,_⟩ _|rintro _ _ _ _ _ ⟨_,_,_,_,rfl,rfl,_,_⟩ _|intro _ _ _ _ _ _ _))|(refine sx ?_;intro _ _)|((with_reducible refine g_awp ?_);simp only [g0,g1,g2]))
  refine pb ?_
  by_cases e : ∀ x ∈ xs, itemOk x
  · have : ¬ ∃ x ∈ xs, notIt x = true := by
      rintro ⟨x, hx, hp⟩
      simp [notIt, bp_t (e x hx)] at hp
    rw [bp_t e, bp_f this]; rfl
  · suffices hh : ∃ x ∈ xs, notIt x = true by rw [bp_f e, bp_t hh]; rfl
    have ⟨x, hx⟩ := Classical.not_forall.1 e
    have ⟨hm, hx⟩ := Classical.not_imp.1 hx
    exact ⟨x, hm, by simp [notIt, bp_f hx]⟩
end Go.Proofs.YtekfdoknfcedpaaGreat
end
section
/- Copies of wheels' lists. -/
set_option linter.unusedSimpArgs false
set_option linter.unusedVariables false
set_option maxHeartbeats 2000000
namespace Go.Proofs.YtekfdoknfcedpaaGreat
open Go Go.Ab
section
/- impl.copySlots -/
def p_impl_copySlots (x0 : AV) : Prog := Ln 0 x0 fun a=>.loop [.nils, .int .i64 0] (fun b=>Bn .lss (g b 1) a fun a=>.ite a (Ix 1 x0 (g b 1) fun a=>.op (.ld1 a) fun a=>.op (.app 3 24 .nils a) fun a=>.op (.bslice 1 1 [.nils] [(0, 1, a)]) fun a=>.op (.app 1 24 (g b 0) a) fun a=>Bn .add (g b 1) (.int .i64 1) fun b=>.leaf 0 [a, b]) (.leaf 2 [g b 0, g b 1])) fun a b=>tsel a 1 (.leaf 1 b) (tsel a 2 (.fin [.val (g b 0)]) .bad)
theorem c_impl_copySlots (x0 : AV) : CC Tryz.prog n_impl_copySlots [x0] (p_impl_copySlots x0) := cc Tryz.func194 [3, 6, 7, 8] (fun _ => [])
/- spec.l8Lists -/
def p_spec_l8Lists (x0 : AV) : Prog := .op (.bslice 1 0 [] []) fun a=>.loop [a, .int .i64 0] (fun a=>Ln 0 x0 fun b=>Bn .lss (g a 1) b fun b=>.ite b (.op (.bslice 3 0 [] []) fun b=>Ix 1 x0 (g a 1) fun c=>.op (.ld1 c) fun c=>.op (.app 3 24 b c) fun b=>.op (.bslice 1 1 [.nils] [(0, 1, b)]) fun b=>.op (.app 1 24 (g a 0) b) fun b=>Bn .add (g a 1) (.int .i64 1) fun a=>.leaf 0 [b, a]) (.leaf 2 [g a 0, g a 1])) fun a b=>tsel a 1 (.leaf 1 b) (tsel a 2 (.fin [.val (g b 0)]) .bad)
theorem c_spec_l8Lists (x0 : AV) : CC Tryz.prog n_spec_l8Lists [x0] (p_spec_l8Lists x0) := cc Tryz.func171 [0, 3, 4] (fun _ => [])
end
theorem s_impl_copySlots (xs : List (List Ab.Timer)) (hs : xs.length + szs xs ≤ 67108864) : CopyL Tryz.prog n_impl_copySlots xs := by
  intro v F h r
  refine c_impl_copySlots _ ?_
  unfold p_impl_copySlots
  have hsm := r.small
  refine aw_len r ?_
  refine aw_upto xs.length (fun i vs h1 => ∃ u G, vs = [u, .int .i64 (i : Int)] ∧ i ≤ xs.length ∧ Ext h h1 ∧ SlRep h1 u (xs.take i) G ∧ Own h.n h1 G) ⟨.nils, [], rfl, Nat.zero_le _, Ext.refl _, SlRep.nils, Own.nil⟩ ?_
  rintro i vs h1 _ ⟨u, G, rfl, hi, e1, ru, ou⟩
  have n1 := e1.1
  simp only [g0, g1]
  refine br (fun hlt => ?_) (fun hge => ?_)
  · obtain ⟨x, hx, -, htk⟩ := drop_step (show i < xs.length by omega)
    have hm := szs_mem (List.mem_of_getElem? hx)
    have hx2 : Sz.sz x = x.length + szs x := rfl
    refine vs ?_
    refine aw_idx r hx rfl ?_
    rintro b o _ Fi a ⟨vx, rfl, rx⟩ _
    (repeat' first|refine vs ?_|(refine br ?_ ?_<;>intro _<;>try(exfalso;first|omega|contradiction))|((with_reducible refine g_idx ?_);((first|refine ix ?_|refine ixi ?_|(refine ixg ?_;intro _ _)|(refine ixgi ?_;intro _ _));first|rintro _ _ _ _ _ ⟨rfl,rfl⟩ _|rintro _ _ _ _ _ ⟨_,rfl,_⟩ _|rintro _ _ _ _ _ ⟨_,_,_,_,rfl,rfl,_,_⟩ _|intro _ _ _ _ _ _ _))|(refine sx ?_;intro _ _)|((with_reducible refine g_awp ?_);simp only [g0,g1,g2]))
    refine app0 (n := h1.n) (ys := x) (slr_auto : SlRep h1 vx x Fi) (tail_own rx _) (Nat.le_refl _) rfl (by omega) ?_
    intro w2 h2 G2 e2 q2 o2
    have n2 := e2.1
    (repeat' first|refine vs ?_|(refine br ?_ ?_<;>intro _<;>try(exfalso;first|omega|contradiction))|((with_reducible refine g_idx ?_);((first|refine ix ?_|refine ixi ?_|(refine ixg ?_;intro _ _)|(refine ixgi ?_;intro _ _));first|rintro _ _ _ _ _ ⟨rfl,rfl⟩ _|rintro _ _ _ _ _ ⟨_,rfl,_⟩ _|rintro _ _ _ _ _ ⟨_,_,_,_,rfl,rfl,_,_⟩ _|intro _ _ _ _ _ _ _))|(refine sx ?_;intro _ _)|((with_reducible refine g_awp ?_);simp only [g0,g1,g2]))
    have hlen : (xs.take i).length = i := by rw [List.length_take]; omega
    refine app1 (n := h.n) (xs := xs.take i) (Fx := G) (a := x) slr_auto ⟨_, rfl, q2⟩ (own_app (ol_auto) o2 (by omega) dis_auto) om_auto rfl ?_ ?_ ?_
    · rw [hlen]; omega
    · rw [hlen]; omega
    intro u' h' F' ek kp r' o'
    (repeat' first|refine vs ?_|(refine br ?_ ?_<;>intro _<;>try(exfalso;first|omega|contradiction))|((with_reducible refine g_idx ?_);((first|refine ix ?_|refine ixi ?_|(refine ixg ?_;intro _ _)|(refine ixgi ?_;intro _ _));first|rintro _ _ _ _ _ ⟨rfl,rfl⟩ _|rintro _ _ _ _ _ ⟨_,rfl,_⟩ _|rintro _ _ _ _ _ ⟨_,_,_,_,rfl,rfl,_,_⟩ _|intro _ _ _ _ _ _ _))|(refine sx ?_;intro _ _)|((with_reducible refine g_awp ?_);simp only [g0,g1,g2]))
    exact ⟨by omega, u', F', rfl, by omega, ek h ext_auto (Nat.le_refl _), by rw [htk]; exact r', o'⟩
  · (repeat' first|refine vs ?_|(refine br ?_ ?_<;>intro _<;>try(exfalso;first|omega|contradiction))|((with_reducible refine g_idx ?_);((first|refine ix ?_|refine ixi ?_|(refine ixg ?_;intro _ _)|(refine ixgi ?_;intro _ _));first|rintro _ _ _ _ _ ⟨rfl,rfl⟩ _|rintro _ _ _ _ _ ⟨_,rfl,_⟩ _|rintro _ _ _ _ _ ⟨_,_,_,_,rfl,rfl,_,_⟩ _|intro _ _ _ _ _ _ _))|(refine sx ?_;intro _ _)|((with_reducible refine g_awp ?_);simp only [g0,g1,g2]))
    exact ⟨rfl, u, rfl, e1, G, by rw [show i = xs.length by omega, List.take_length] at ru; exact ru, ou⟩
theorem s_spec_l8Lists (xs : List (List Ab.Timer)) (hs : xs.length + szs xs ≤ 67108864) : CopyL Tryz.prog n_spec_l8Lists xs := by
  intro v F h r
  refine c_spec_l8Lists _ ?_
  unfold p_spec_l8Lists
  have hsm := r.small
  obtain ⟨re, oe⟩ := empty_own (h := h) (α := List Ab.Timer) (w := 1) rfl
  refine vs ?_
  refine aw_upto xs.length (fun i vs h1 => ∃ u G, vs = [u, .int .i64 (i : Int)] ∧ i ≤ xs.length ∧ Ext h h1 ∧ SlRep h1 u (xs.take i) G ∧ Own h.n h1 G) ⟨_, _, rfl, Nat.zero_le _, (Ext.refl _).push _, by rw [List.take_zero]; exact re, oe _ (Nat.le_refl _)⟩ ?_
  rintro i vs h1 _ ⟨u, G, rfl, hi, e1, ru, ou⟩
  have n1 := e1.1
  simp only [g0, g1]
  refine aw_len r ?_
  refine br (fun hlt => ?_) (fun hge => ?_)
  · obtain ⟨x, hx, -, htk⟩ := drop_step (show i < xs.length by omega)
    have hm := szs_mem (List.mem_of_getElem? hx)
    have hx2 : Sz.sz x = x.length + szs x := rfl
    refine vs ?_
    refine aw_idx r hx rfl ?_
    rintro b o _ Fi a ⟨vx, rfl, rx⟩ _
    (repeat' first|refine vs ?_|(refine br ?_ ?_<;>intro _<;>try(exfalso;first|omega|contradiction))|((with_reducible refine g_idx ?_);((first|refine ix ?_|refine ixi ?_|(refine ixg ?_;intro _ _)|(refine ixgi ?_;intro _ _));first|rintro _ _ _ _ _ ⟨rfl,rfl⟩ _|rintro _ _ _ _ _ ⟨_,rfl,_⟩ _|rintro _ _ _ _ _ ⟨_,_,_,_,rfl,rfl,_,_⟩ _|intro _ _ _ _ _ _ _))|(refine sx ?_;intro _ _)|((with_reducible refine g_awp ?_);simp only [g0,g1,g2]))
    refine appE (h := h1) (n := h1.n) (ys := x) (slr_auto : SlRep h1 vx x Fi) (tail_own rx _) (Nat.le_refl _) rfl (by omega) ?_
    intro w2 h2 G2 e2 q2 o2
    have n2 := e2.1
    (repeat' first|refine vs ?_|(refine br ?_ ?_<;>intro _<;>try(exfalso;first|omega|contradiction))|((with_reducible refine g_idx ?_);((first|refine ix ?_|refine ixi ?_|(refine ixg ?_;intro _ _)|(refine ixgi ?_;intro _ _));first|rintro _ _ _ _ _ ⟨rfl,rfl⟩ _|rintro _ _ _ _ _ ⟨_,rfl,_⟩ _|rintro _ _ _ _ _ ⟨_,_,_,_,rfl,rfl,_,_⟩ _|intro _ _ _ _ _ _ _))|(refine sx ?_;intro _ _)|((with_reducible refine g_awp ?_);simp only [g0,g1,g2]))
    have hlen : (xs.take i).length = i := by rw [List.length_take]; omega
    refine app1 (n := h.n) (xs := xs.take i) (Fx := G) (a := x) slr_auto ⟨_, rfl, q2⟩ (own_app (ol_auto) o2 (by omega) dis_auto) om_auto rfl ?_ ?_ ?_
    · rw [hlen]; omega
    · rw [hlen]; omega
    intro u' h' F' ek kp r' o'
    (repeat' first|refine vs ?_|(refine br ?_ ?_<;>intro _<;>try(exfalso;first|omega|contradiction))|((with_reducible refine g_idx ?_);((first|refine ix ?_|refine ixi ?_|(refine ixg ?_;intro _ _)|(refine ixgi ?_;intro _ _));first|rintro _ _ _ _ _ ⟨rfl,rfl⟩ _|rintro _ _ _ _ _ ⟨_,rfl,_⟩ _|rintro _ _ _ _ _ ⟨_,_,_,_,rfl,rfl,_,_⟩ _|intro _ _ _ _ _ _ _))|(refine sx ?_;intro _ _)|((with_reducible refine g_awp ?_);simp only [g0,g1,g2]))
    exact ⟨by omega, u', F', rfl, by omega, ek h ext_auto (Nat.le_refl _), by rw [htk]; exact r', o'⟩
  · (repeat' first|refine vs ?_|(refine br ?_ ?_<;>intro _<;>try(exfalso;first|omega|contradiction))|((with_reducible refine g_idx ?_);((first|refine ix ?_|refine ixi ?_|(refine ixg ?_;intro _ _)|(refine ixgi ?_;intro _ _));first|rintro _ _ _ _ _ ⟨rfl,rfl⟩ _|rintro _ _ _ _ _ ⟨_,rfl,_⟩ _|rintro _ _ _ _ _ ⟨_,_,_,_,rfl,rfl,_,_⟩ _|intro _ _ _ _ _ _ _))|(refine sx ?_;intro _ _)|((with_reducible refine g_awp ?_);simp only [g0,g1,g2]))
    exact ⟨rfl, u, rfl, e1, G, by rw [show i = xs.length by omega, List.take_length] at ru; exact ru, ou⟩
end Go.Proofs.YtekfdoknfcedpaaGreat
end
section
/- Copies of wheels. -/
set_option linter.unusedSimpArgs false
set_option linter.unusedVariables false
set_option maxHeartbeats 2000000
namespace Go.Proofs.YtekfdoknfcedpaaGreat
open Go Go.Ab
section
/- impl.copyWheel -/
def p_impl_copyWheel (x0 : AV) : Prog := .op (.box x0) fun a=>.op (.alloc [.int .i64 0, .nils, .nils, .nils]) fun b=>.op (.fad 0 a) fun c=>.op (.ld1 c) fun d=>Lg 1 a fun e=>.op (.fad 2 a) fun f=>.op (.ld1 f) fun i=>.op (.fad 3 a) fun a=>.op (.ld1 a) fun j=>Cl n_impl_copySlots [e] fun e=>.chk (.ld1 c) d (.chk (.ld1 f) i (.chk (.ld1 a) j (Cl n_impl_copySlots [i] fun f=>.chk (.ld1 c) d (.chk (.ld1 a) j (.op (.app 3 24 .nils j) fun a=>.chk (.ld1 c) d (.op (.build [.int .i64 0, .nils, .nils, .nils] [(0, 1, d), (1, 1, e), (2, 1, f), (3, 1, a)]) fun a=>.op (.st 4 b a) fun _=>.fin [.cn 4 b]))))))
theorem c_impl_copyWheel (x0 : AV) : CC Tryz.prog n_impl_copyWheel [x0] (p_impl_copyWheel x0) := cc Tryz.func121 [] (fun r => if r = 1 then [(0, []), (1, []), (2, []), (3, []), (5, []), (6, []), (8, []), (9, []), (4, [1, 6, 9]), (7, [1, 9]), (10, [1]), (11, []), (12, [])] else [])
end
theorem s_impl_copyWheel (x : Wheel) (hs : Sz.sz x ≤ 67108864) : CopyX Wheel Tryz.prog n_impl_copyWheel x := by
  rintro cs F h ⟨v0, v1, v2, F0, F1, F2, rfl, rfl, r0, r1, r2⟩
  have hsz : Sz.sz x = (x.near.length + szs x.near) + (x.far.length + szs x.far) + (x.rest.length + szs x.rest) := rfl
  refine c_impl_copyWheel _ ?_
  unfold p_impl_copyWheel
  (repeat' first|refine vs ?_|(refine br ?_ ?_<;>intro _<;>try(exfalso;first|omega|contradiction))|((with_reducible refine g_idx ?_);((first|refine ix ?_|refine ixi ?_|(refine ixg ?_;intro _ _)|(refine ixgi ?_;intro _ _));first|rintro _ _ _ _ _ ⟨rfl,rfl⟩ _|rintro _ _ _ _ _ ⟨_,rfl,_⟩ _|rintro _ _ _ _ _ ⟨_,_,_,_,rfl,rfl,_,_⟩ _|intro _ _ _ _ _ _ _))|(refine sx ?_;intro _ _)|((with_reducible refine g_awp ?_);simp only [g0,g1,g2]))
  refine aw_call (s_impl_copySlots x.near (by omega) _ _ _ slr_auto) ?_
  rintro w1 h1 ⟨e1, G1, q1, o1⟩
  have n1 := e1.1
  (try simp only [push_n, upd_n] at n1)
  (repeat' first|refine vs ?_|(refine br ?_ ?_<;>intro _<;>try(exfalso;first|omega|contradiction))|((with_reducible refine g_idx ?_);((first|refine ix ?_|refine ixi ?_|(refine ixg ?_;intro _ _)|(refine ixgi ?_;intro _ _));first|rintro _ _ _ _ _ ⟨rfl,rfl⟩ _|rintro _ _ _ _ _ ⟨_,rfl,_⟩ _|rintro _ _ _ _ _ ⟨_,_,_,_,rfl,rfl,_,_⟩ _|intro _ _ _ _ _ _ _))|(refine sx ?_;intro _ _)|((with_reducible refine g_awp ?_);simp only [g0,g1,g2]))
  refine aw_call (s_impl_copySlots x.far (by omega) _ _ _ slr_auto) ?_
  rintro w2 h2 ⟨e2, G2, q2, o2⟩
  have n2 := e2.1
  (repeat' first|refine vs ?_|(refine br ?_ ?_<;>intro _<;>try(exfalso;first|omega|contradiction))|((with_reducible refine g_idx ?_);((first|refine ix ?_|refine ixi ?_|(refine ixg ?_;intro _ _)|(refine ixgi ?_;intro _ _));first|rintro _ _ _ _ _ ⟨rfl,rfl⟩ _|rintro _ _ _ _ _ ⟨_,rfl,_⟩ _|rintro _ _ _ _ _ ⟨_,_,_,_,rfl,rfl,_,_⟩ _|intro _ _ _ _ _ _ _))|(refine sx ?_;intro _ _)|((with_reducible refine g_awp ?_);simp only [g0,g1,g2]))
  refine app0 (ys := x.rest) (slr_auto : SlRep _ v2 x.rest F2) (tail_own r2 _) (Nat.le_refl _) rfl (by omega) ?_
  intro w3 h3 G3 e3 q3 o3
  have n3 := e3.1
  (repeat' first|refine vs ?_|(refine br ?_ ?_<;>intro _<;>try(exfalso;first|omega|contradiction))|((with_reducible refine g_idx ?_);((first|refine ix ?_|refine ixi ?_|(refine ixg ?_;intro _ _)|(refine ixgi ?_;intro _ _));first|rintro _ _ _ _ _ ⟨rfl,rfl⟩ _|rintro _ _ _ _ _ ⟨_,rfl,_⟩ _|rintro _ _ _ _ _ ⟨_,_,_,_,rfl,rfl,_,_⟩ _|intro _ _ _ _ _ _ _))|(refine sx ?_;intro _ _)|((with_reducible refine g_awp ?_);simp only [g0,g1,g2]))
  exact ⟨rfl, _, rfl, ext_auto, _, _, rfl, ⟨_, _, _, _, _, _, rfl, rfl, slr_auto, slr_auto, slr_auto⟩, (ol_app2 oll_auto (ol_app2 oll_auto oll_auto disn_auto) disn_auto).1⟩
end Go.Proofs.YtekfdoknfcedpaaGreat
end
section
/- Copies of rules and set-ups. -/
set_option linter.unusedSimpArgs false
set_option linter.unusedVariables false
set_option maxHeartbeats 2000000
namespace Go.Proofs.YtekfdoknfcedpaaGreat
open Go Go.Ab
section
/- impl.copyPol -/
def p_impl_copyPol (x0 : AV) : Prog := .op (.box x0) fun a=>.op (.alloc z5_5ed) fun b=>Ld 5 a fun c=>.op (.alloc z5_5ed) fun d=>.op (.st 5 d c) fun _=>Sg 4 d .nils fun _=>Lg 4 a fun a=>Ln 0 a fun c=>.loop [.int .i64 0] (fun b=>Bn .lss (g b 0) c fun c=>.ite c (Ix 5 a (g b 0) fun a=>Ld 5 a fun a=>.op (.alloc z5_5ed) fun c=>.op (.st 5 c a) fun _=>.op (.fad 4 d) fun a=>.op (.ld1 a) fun e=>Ld 5 c fun c=>Cl n_impl_copyPol [c] fun c=>.chk (.ld1 a) e (.op (.bslice 5 1 z5_5ed [(0, 5, c)]) fun a=>.op (.app 5 72 e a) fun a=>Sg 4 d a fun _=>Bn .add (g b 0) (.int .i64 1) fun a=>.leaf 0 [a])) (.leaf 2 [g b 0])) fun a c=>tsel a 1 (.leaf 1 c) (tsel a 2 (Ld 5 d fun a=>.op (.st 5 b a) fun _=>.fin [.cn 5 b]) .bad)
theorem c_impl_copyPol (x0 : AV) : CC Tryz.prog n_impl_copyPol [x0] (p_impl_copyPol x0) := cc Tryz.func192 [2, 3, 9, 10, 11] (fun r => if r = 6 then [(0, []), (1, []), (2, []), (3, [1]), (4, []), (5, []), (6, []), (7, [])] else [])
/- spec.l5Copy -/
def p_spec_l5Copy (x0 : AV) : Prog := .op (.box x0) fun a=>.op (.alloc z5_5ed) fun b=>Ld 5 a fun c=>.op (.alloc z5_5ed) fun d=>.op (.st 5 d c) fun _=>.op (.bslice 5 0 [] []) fun c=>Sg 4 d c fun _=>.loop [.int .i64 0] (fun b=>Lg 4 a fun c=>Ln 0 c fun c=>Bn .lss (g b 0) c fun c=>.ite c (Lg 4 a fun a=>Ix 5 a (g b 0) fun a=>Ld 5 a fun a=>Cl n_spec_l5Copy [a] fun a=>.op (.alloc z5_5ed) fun c=>.op (.st 5 c a) fun _=>Lg 4 d fun a=>Ld 5 c fun c=>.op (.bslice 5 1 z5_5ed [(0, 5, c)]) fun c=>.op (.app 5 72 a c) fun a=>Sg 4 d a fun _=>Bn .add (g b 0) (.int .i64 1) fun a=>.leaf 0 [a]) (.leaf 2 [g b 0])) fun a c=>tsel a 1 (.leaf 1 c) (tsel a 2 (Ld 5 d fun a=>.op (.st 5 b a) fun _=>.fin [.cn 5 b]) .bad)
theorem c_spec_l5Copy (x0 : AV) : CC Tryz.prog n_spec_l5Copy [x0] (p_spec_l5Copy x0) := cc Tryz.func169 [1, 2, 3, 4] (fun _ => [])
/- impl.copyConf -/
def p_impl_copyConf (x0 : AV) : Prog := .op (.box x0) fun a=>.op (.alloc z12_a94) fun b=>.op (.fad 7 a) fun c=>Ld 5 c fun c=>Cl n_impl_copyPol [c] fun c=>.op (.fad 7 a) fun d=>.op (.st 5 d c) fun _=>Ld 12 a fun a=>.op (.st 12 b a) fun _=>.fin [.cn 12 b]
theorem c_impl_copyConf (x0 : AV) : CC Tryz.prog n_impl_copyConf [x0] (p_impl_copyConf x0) := cc Tryz.func119
/- spec.l13Copy -/
def p_spec_l13Copy (x0 : AV) : Prog := .op (.box x0) fun a=>.op (.alloc z12_a94) fun b=>Ld 12 a fun c=>.op (.alloc z12_a94) fun d=>.op (.st 12 d c) fun _=>.op (.fad 7 a) fun a=>Ld 5 a fun a=>Cl n_spec_l5Copy [a] fun a=>.op (.alloc z5_5ed) fun c=>.op (.st 5 c a) fun _=>Ld 5 c fun a=>.op (.fad 7 d) fun c=>.op (.st 5 c a) fun _=>Ld 12 d fun a=>.op (.st 12 b a) fun _=>.fin [.cn 12 b]
theorem c_spec_l13Copy (x0 : AV) : CC Tryz.prog n_spec_l13Copy [x0] (p_spec_l13Copy x0) := cc Tryz.func91
end
theorem s_impl_copyPol (x : Pol) : Sz.sz x ≤ 67108864 → CopyX Pol Tryz.prog n_impl_copyPol x := by
  refine pol_ind (p := fun x => Sz.sz x ≤ 67108864 → CopyX Pol Tryz.prog n_impl_copyPol x) ?_ x
  intro x ih hs cs F h r
  rw [Pol.sz_eq] at hs
  rw [Pol.rep_iff] at r
  obtain ⟨v0, rfl, r0⟩ := r
  have hsm := r0.small
  refine c_impl_copyPol _ ?_
  unfold p_impl_copyPol
  (repeat' first|refine vs ?_|(refine br ?_ ?_<;>intro _<;>try(exfalso;first|omega|contradiction))|((with_reducible refine g_idx ?_);((first|refine ix ?_|refine ixi ?_|(refine ixg ?_;intro _ _)|(refine ixgi ?_;intro _ _));first|rintro _ _ _ _ _ ⟨rfl,rfl⟩ _|rintro _ _ _ _ _ ⟨_,rfl,_⟩ _|rintro _ _ _ _ _ ⟨_,_,_,_,rfl,rfl,_,_⟩ _|intro _ _ _ _ _ _ _))|(refine sx ?_;intro _ _)|((with_reducible refine g_awp ?_);simp only [g0,g1,g2]))
  refine aw_upto x.l.length (fun i vs h1 => ∃ u G, vs = [.int .i64 (i : Int)] ∧ i ≤ x.l.length ∧ Bk h1 (h.n + 1 + 1) [.int .i64 x.kind, .int .i64 x.n, .str x.key, .str x.text, u] 0 ∧ Bk h1 (h.n + 1) [AV.int .i64 0, AV.int .i64 0, AV.str ⟨#[]⟩, AV.str ⟨#[]⟩, AV.nils] 0 ∧ Ext h h1 ∧ h.n + 1 + 1 + 1 ≤ h1.n ∧ SlRep h1 u (x.l.take i) G ∧ Own (h.n + 1 + 1 + 1) h1 G) ?_ ?_
  · exact ⟨.nils, [], rfl, Nat.zero_le _, bk_auto, bk_auto, ext_auto, by simp only [push_n, upd_n]; omega, SlRep.nils, Own.nil⟩
  rintro i vs h1 _ ⟨u, G, rfl, hi, b2, b1, e1, m1, ru, ou⟩
  simp only [g0, g1]
  refine br (fun hlt => ?_) (fun hge => ?_)
  · obtain ⟨y, hy, -, htk⟩ := drop_step (show i < x.l.length by omega)
    have hm := szs_mem (List.mem_of_getElem? hy)
    have c := ih y (List.mem_of_getElem? hy) (by omega)
    refine vs ?_
    refine aw_idx r0 hy rfl ?_
    rintro b o cy Fi a ry _
    rw [Pol.rep_iff] at ry
    obtain ⟨vy, rfl, ry⟩ := ry
    (repeat' first|refine vs ?_|(refine br ?_ ?_<;>intro _<;>try(exfalso;first|omega|contradiction))|((with_reducible refine g_idx ?_);((first|refine ix ?_|refine ixi ?_|(refine ixg ?_;intro _ _)|(refine ixgi ?_;intro _ _));first|rintro _ _ _ _ _ ⟨rfl,rfl⟩ _|rintro _ _ _ _ _ ⟨_,rfl,_⟩ _|rintro _ _ _ _ _ ⟨_,_,_,_,rfl,rfl,_,_⟩ _|intro _ _ _ _ _ _ _))|(refine sx ?_;intro _ _)|((with_reducible refine g_awp ?_);simp only [g0,g1,g2]))
    refine aw_call (c _ _ _ (Pol.rep_iff.2 ⟨_, rfl, slr_auto⟩)) ?_
    rintro _ h2 ⟨e2, _, G2, rfl, r2, o2⟩
    rw [Pol.rep_iff] at r2
    obtain ⟨w2, rfl, q2⟩ := r2
    have n2 := e2.1
    (try simp only [push_n, upd_n] at n2)
    (repeat' first|refine vs ?_|(refine br ?_ ?_<;>intro _<;>try(exfalso;first|omega|contradiction))|((with_reducible refine g_idx ?_);((first|refine ix ?_|refine ixi ?_|(refine ixg ?_;intro _ _)|(refine ixgi ?_;intro _ _));first|rintro _ _ _ _ _ ⟨rfl,rfl⟩ _|rintro _ _ _ _ _ ⟨_,rfl,_⟩ _|rintro _ _ _ _ _ ⟨_,_,_,_,rfl,rfl,_,_⟩ _|intro _ _ _ _ _ _ _))|(refine sx ?_;intro _ _)|((with_reducible refine g_awp ?_);simp only [g0,g1,g2]))
    have hlen : (x.l.take i).length = i := by rw [List.length_take]; omega
    refine app1 (n := h.n + 1 + 1 + 1) (xs := x.l.take i) (Fx := G) (a := y) slr_auto (Pol.rep_iff.2 ⟨_, rfl, q2⟩) (own_app (ol_auto) o2 (by simp only [push_n]; omega) dis_auto) om_auto rfl ?_ ?_ ?_
    · rw [hlen]; omega
    · rw [hlen]; omega
    intro u' h' F' ek kp r' o'
    have n3 := kp.1
    (try simp only [push_n, upd_n] at n3)
    (repeat' first|refine vs ?_|(refine br ?_ ?_<;>intro _<;>try(exfalso;first|omega|contradiction))|((with_reducible refine g_idx ?_);((first|refine ix ?_|refine ixi ?_|(refine ixg ?_;intro _ _)|(refine ixgi ?_;intro _ _));first|rintro _ _ _ _ _ ⟨rfl,rfl⟩ _|rintro _ _ _ _ _ ⟨_,rfl,_⟩ _|rintro _ _ _ _ _ ⟨_,_,_,_,rfl,rfl,_,_⟩ _|intro _ _ _ _ _ _ _))|(refine sx ?_;intro _ _)|((with_reducible refine g_awp ?_);simp only [g0,g1,g2]))
    exact ⟨by omega, u', F', rfl, by omega, bk_auto, bk_auto, (ek h ext_auto (by omega)).upd (by (try simp only [push_n, upd_n]); omega) _, by simp only [upd_n]; omega, by rw [htk]; exact slr_auto, ol_auto⟩
  · have hlen : i = x.l.length := by omega
    subst hlen
    rw [List.take_length] at ru
    (repeat' first|refine vs ?_|(refine br ?_ ?_<;>intro _<;>try(exfalso;first|omega|contradiction))|((with_reducible refine g_idx ?_);((first|refine ix ?_|refine ixi ?_|(refine ixg ?_;intro _ _)|(refine ixgi ?_;intro _ _));first|rintro _ _ _ _ _ ⟨rfl,rfl⟩ _|rintro _ _ _ _ _ ⟨_,rfl,_⟩ _|rintro _ _ _ _ _ ⟨_,_,_,_,rfl,rfl,_,_⟩ _|intro _ _ _ _ _ _ _))|(refine sx ?_;intro _ _)|((with_reducible refine g_awp ?_);simp only [g0,g1,g2]))
    exact ⟨rfl, _, rfl, ext_auto, _, _, rfl, Pol.rep_iff.2 ⟨_, rfl, slr_auto⟩, (ol_auto : Own (h.n + 1 + 1 + 1) _ _).mono (by omega) fun _ _ => rfl⟩
theorem s_spec_l5Copy (x : Pol) : Sz.sz x ≤ 67108864 → CopyX Pol Tryz.prog n_spec_l5Copy x := by
  refine pol_ind (p := fun x => Sz.sz x ≤ 67108864 → CopyX Pol Tryz.prog n_spec_l5Copy x) ?_ x
  intro x ih hs cs F h r
  rw [Pol.sz_eq] at hs
  rw [Pol.rep_iff] at r
  obtain ⟨v0, rfl, r0⟩ := r
  have hsm := r0.small
  refine c_spec_l5Copy _ ?_
  unfold p_spec_l5Copy
  (repeat' first|refine vs ?_|(refine br ?_ ?_<;>intro _<;>try(exfalso;first|omega|contradiction))|((with_reducible refine g_idx ?_);((first|refine ix ?_|refine ixi ?_|(refine ixg ?_;intro _ _)|(refine ixgi ?_;intro _ _));first|rintro _ _ _ _ _ ⟨rfl,rfl⟩ _|rintro _ _ _ _ _ ⟨_,rfl,_⟩ _|rintro _ _ _ _ _ ⟨_,_,_,_,rfl,rfl,_,_⟩ _|intro _ _ _ _ _ _ _))|(refine sx ?_;intro _ _)|((with_reducible refine g_awp ?_);simp only [g0,g1,g2]))
  refine aw_upto x.l.length (fun i vs h1 => ∃ u G, vs = [.int .i64 (i : Int)] ∧ i ≤ x.l.length ∧ Bk h1 h.n (x.cs v0) 0 ∧ Bk h1 (h.n + 1 + 1) [.int .i64 x.kind, .int .i64 x.n, .str x.key, .str x.text, u] 0 ∧ Bk h1 (h.n + 1) [AV.int .i64 0, AV.int .i64 0, AV.str ⟨#[]⟩, AV.str ⟨#[]⟩, AV.nils] 0 ∧ Ext h h1 ∧ h.n + 1 + 1 + 1 ≤ h1.n ∧ SlRep h1 u (x.l.take i) G ∧ Own (h.n + 1 + 1 + 1) h1 G) ?_ ?_
  · refine ⟨_, [h.n + 1 + 1 + 1], rfl, Nat.zero_le _, bk_auto, bk_auto, bk_auto, ext_auto, by simp only [push_n, upd_n]; omega, ?_, ?_⟩
    · exact (empty_own (α := Pol) (w := 5) rfl).1
    · exact (empty_own (α := Pol) (w := 5) rfl).2 _ (by simp only [push_n]; omega)
  rintro i vs h1 _ ⟨u, G, rfl, hi, b0, b2, b1, e1, m1, ru, ou⟩
  simp only [g0, g1]
  refine vs ?_
  refine br (fun hlt => ?_) (fun hge => ?_)
  · obtain ⟨y, hy, -, htk⟩ := drop_step (show i < x.l.length by omega)
    have hm := szs_mem (List.mem_of_getElem? hy)
    have c := ih y (List.mem_of_getElem? hy) (by omega)
    refine vs ?_
    refine aw_idx r0 hy rfl ?_
    rintro b o cy Fi a ry _
    rw [Pol.rep_iff] at ry
    obtain ⟨vy, rfl, ry⟩ := ry
    (repeat' first|refine vs ?_|(refine br ?_ ?_<;>intro _<;>try(exfalso;first|omega|contradiction))|((with_reducible refine g_idx ?_);((first|refine ix ?_|refine ixi ?_|(refine ixg ?_;intro _ _)|(refine ixgi ?_;intro _ _));first|rintro _ _ _ _ _ ⟨rfl,rfl⟩ _|rintro _ _ _ _ _ ⟨_,rfl,_⟩ _|rintro _ _ _ _ _ ⟨_,_,_,_,rfl,rfl,_,_⟩ _|intro _ _ _ _ _ _ _))|(refine sx ?_;intro _ _)|((with_reducible refine g_awp ?_);simp only [g0,g1,g2]))
    refine aw_call (c _ _ _ (Pol.rep_iff.2 ⟨_, rfl, slr_auto⟩)) ?_
    rintro _ h2 ⟨e2, _, G2, rfl, r2, o2⟩
    rw [Pol.rep_iff] at r2
    obtain ⟨w2, rfl, q2⟩ := r2
    have n2 := e2.1
    (try simp only [push_n, upd_n] at n2)
    (repeat' first|refine vs ?_|(refine br ?_ ?_<;>intro _<;>try(exfalso;first|omega|contradiction))|((with_reducible refine g_idx ?_);((first|refine ix ?_|refine ixi ?_|(refine ixg ?_;intro _ _)|(refine ixgi ?_;intro _ _));first|rintro _ _ _ _ _ ⟨rfl,rfl⟩ _|rintro _ _ _ _ _ ⟨_,rfl,_⟩ _|rintro _ _ _ _ _ ⟨_,_,_,_,rfl,rfl,_,_⟩ _|intro _ _ _ _ _ _ _))|(refine sx ?_;intro _ _)|((with_reducible refine g_awp ?_);simp only [g0,g1,g2]))
    have hlen : (x.l.take i).length = i := by rw [List.length_take]; omega
    refine app1 (n := h.n + 1 + 1 + 1) (xs := x.l.take i) (Fx := G) (a := y) slr_auto (Pol.rep_iff.2 ⟨_, rfl, slr_auto⟩) (own_app (ol_auto) (ol_auto : Own h1.n _ G2) (by omega) dis_auto) om_auto rfl ?_ ?_ ?_
    · rw [hlen]; omega
    · rw [hlen]; omega
    intro u' h' F' ek kp r' o'
    have n3 := kp.1
    (try simp only [push_n, upd_n] at n3)
    (repeat' first|refine vs ?_|(refine br ?_ ?_<;>intro _<;>try(exfalso;first|omega|contradiction))|((with_reducible refine g_idx ?_);((first|refine ix ?_|refine ixi ?_|(refine ixg ?_;intro _ _)|(refine ixgi ?_;intro _ _));first|rintro _ _ _ _ _ ⟨rfl,rfl⟩ _|rintro _ _ _ _ _ ⟨_,rfl,_⟩ _|rintro _ _ _ _ _ ⟨_,_,_,_,rfl,rfl,_,_⟩ _|intro _ _ _ _ _ _ _))|(refine sx ?_;intro _ _)|((with_reducible refine g_awp ?_);simp only [g0,g1,g2]))
    exact ⟨by omega, u', F', rfl, by omega, bk_auto, bk_auto, bk_auto, (ek h ext_auto (by omega)).upd (by (try simp only [push_n, upd_n]); omega) _, by simp only [upd_n]; omega, by rw [htk]; exact slr_auto, ol_auto⟩
  · have hlen : i = x.l.length := by omega
    subst hlen
    rw [List.take_length] at ru
    (repeat' first|refine vs ?_|(refine br ?_ ?_<;>intro _<;>try(exfalso;first|omega|contradiction))|((with_reducible refine g_idx ?_);((first|refine ix ?_|refine ixi ?_|(refine ixg ?_;intro _ _)|(refine ixgi ?_;intro _ _));first|rintro _ _ _ _ _ ⟨rfl,rfl⟩ _|rintro _ _ _ _ _ ⟨_,rfl,_⟩ _|rintro _ _ _ _ _ ⟨_,_,_,_,rfl,rfl,_,_⟩ _|intro _ _ _ _ _ _ _))|(refine sx ?_;intro _ _)|((with_reducible refine g_awp ?_);simp only [g0,g1,g2]))
    exact ⟨rfl, _, rfl, ext_auto, _, _, rfl, Pol.rep_iff.2 ⟨_, rfl, slr_auto⟩, (ol_auto : Own (h.n + 1 + 1 + 1) _ _).mono (by omega) fun _ _ => rfl⟩
theorem s_impl_copyConf (x : Conf) (hs : Sz.sz x ≤ 67108864) : CopyX Conf Tryz.prog n_impl_copyConf x := by
  rintro cs F h ⟨v0, rfl, r0⟩
  have hx2 : Sz.sz x = Sz.sz x.rule := rfl
  refine c_impl_copyConf _ ?_
  unfold p_impl_copyConf
  (repeat' first|refine vs ?_|(refine br ?_ ?_<;>intro _<;>try(exfalso;first|omega|contradiction))|((with_reducible refine g_callf n_impl_copyPol ?_);(refine aw_call (s_impl_copyPol x.rule (by omega) _ _ _ (Pol.rep_iff.2 ⟨_, rfl, slr_auto⟩)) ?_; rintro _ h2 ⟨e2, _, G2, rfl, r2, o2⟩; rw [Pol.rep_iff] at r2; obtain ⟨w2, rfl, q2⟩ := r2; have n2 := e2.1; (try simp only [push_n, upd_n] at n2)))|((with_reducible refine g_idx ?_);((first|refine ix ?_|refine ixi ?_|(refine ixg ?_;intro _ _)|(refine ixgi ?_;intro _ _));first|rintro _ _ _ _ _ ⟨rfl,rfl⟩ _|rintro _ _ _ _ _ ⟨_,rfl,_⟩ _|rintro _ _ _ _ _ ⟨_,_,_,_,rfl,rfl,_,_⟩ _|intro _ _ _ _ _ _ _))|(refine sx ?_;intro _ _)|((with_reducible refine g_awp ?_);simp only [g0,g1,g2]))
  exact ⟨rfl, _, rfl, ext_auto, _, _, rfl, ⟨_, rfl, slr_auto⟩, ol_auto⟩
theorem s_spec_l13Copy (x : Conf) (hs : Sz.sz x ≤ 67108864) : CopyX Conf Tryz.prog n_spec_l13Copy x := by
  rintro cs F h ⟨v0, rfl, r0⟩
  have hx2 : Sz.sz x = Sz.sz x.rule := rfl
  refine c_spec_l13Copy _ ?_
  unfold p_spec_l13Copy
  (repeat' first|refine vs ?_|(refine br ?_ ?_<;>intro _<;>try(exfalso;first|omega|contradiction))|((with_reducible refine g_callf n_spec_l5Copy ?_);(refine aw_call (s_spec_l5Copy x.rule (by omega) _ _ _ (Pol.rep_iff.2 ⟨_, rfl, slr_auto⟩)) ?_; rintro _ h2 ⟨e2, _, G2, rfl, r2, o2⟩; rw [Pol.rep_iff] at r2; obtain ⟨w2, rfl, q2⟩ := r2; have n2 := e2.1; (try simp only [push_n, upd_n] at n2)))|((with_reducible refine g_idx ?_);((first|refine ix ?_|refine ixi ?_|(refine ixg ?_;intro _ _)|(refine ixgi ?_;intro _ _));first|rintro _ _ _ _ _ ⟨rfl,rfl⟩ _|rintro _ _ _ _ _ ⟨_,rfl,_⟩ _|rintro _ _ _ _ _ ⟨_,_,_,_,rfl,rfl,_,_⟩ _|intro _ _ _ _ _ _ _))|(refine sx ?_;intro _ _)|((with_reducible refine g_awp ?_);simp only [g0,g1,g2]))
  exact ⟨rfl, _, rfl, ext_auto, _, _, rfl, ⟨_, rfl, slr_auto⟩, ol_auto⟩
end Go.Proofs.YtekfdoknfcedpaaGreat
end
section
/- New wheels and buckets; copies of wheels by the reference. -/
set_option linter.unusedSimpArgs false
set_option linter.unusedVariables false
set_option maxHeartbeats 2000000
namespace Go.Proofs.YtekfdoknfcedpaaGreat
open Go Go.Ab
section
/- spec.l8Copy -/
def p_spec_l8Copy (x0 : AV) : Prog := .op (.box x0) fun a=>.op (.alloc [.int .i64 0, .nils, .nils, .nils]) fun b=>.op (.fad 0 a) fun c=>.op (.ld1 c) fun d=>Lg 1 a fun e=>.op (.fad 2 a) fun f=>.op (.ld1 f) fun i=>.op (.bslice 3 0 [] []) fun j=>.op (.fad 3 a) fun a=>.op (.ld1 a) fun k=>Cl n_spec_l8Lists [e] fun e=>.chk (.ld1 c) d (.chk (.ld1 f) i (.chk (.bslice 3 0 [] []) j (.chk (.ld1 a) k (Cl n_spec_l8Lists [i] fun f=>.chk (.ld1 c) d (.chk (.bslice 3 0 [] []) j (.chk (.ld1 a) k (.op (.app 3 24 j k) fun a=>.chk (.ld1 c) d (.op (.build [.int .i64 0, .nils, .nils, .nils] [(0, 1, d), (1, 1, e), (2, 1, f), (3, 1, a)]) fun a=>.op (.st 4 b a) fun _=>.fin [.cn 4 b]))))))))
theorem c_spec_l8Copy (x0 : AV) : CC Tryz.prog n_spec_l8Copy [x0] (p_spec_l8Copy x0) := cc Tryz.func93 [] (fun r => if r = 1 then [(0, []), (1, []), (2, []), (3, []), (5, []), (6, []), (8, []), (9, []), (10, []), (4, [1, 6, 8, 10]), (7, [1, 8, 10]), (11, [1]), (12, []), (13, [])] else [])
end
theorem s_spec_l8Copy (x : Wheel) (hs : Sz.sz x ≤ 67108864) : CopyX Wheel Tryz.prog n_spec_l8Copy x := by
  rintro cs F h ⟨v0, v1, v2, F0, F1, F2, rfl, rfl, r0, r1, r2⟩
  have hsz : Sz.sz x = (x.near.length + szs x.near) + (x.far.length + szs x.far) + (x.rest.length + szs x.rest) := rfl
  refine c_spec_l8Copy _ ?_
  unfold p_spec_l8Copy
  (repeat' first|refine vs ?_|(refine br ?_ ?_<;>intro _<;>try(exfalso;first|omega|contradiction))|((with_reducible refine g_idx ?_);((first|refine ix ?_|refine ixi ?_|(refine ixg ?_;intro _ _)|(refine ixgi ?_;intro _ _));first|rintro _ _ _ _ _ ⟨rfl,rfl⟩ _|rintro _ _ _ _ _ ⟨_,rfl,_⟩ _|rintro _ _ _ _ _ ⟨_,_,_,_,rfl,rfl,_,_⟩ _|intro _ _ _ _ _ _ _))|(refine sx ?_;intro _ _)|((with_reducible refine g_awp ?_);simp only [g0,g1,g2]))
  obtain ⟨re, oe⟩ := empty_own (h := (h.push ⟨x.cs v0 v1 v2, 0, 0⟩).push ⟨[AV.int .i64 0, AV.nils, AV.nils, AV.nils], 0, 0⟩) (α := Ab.Timer) (w := 3) rfl
  have oe := oe (h.n + 1 + 1) (by simp)
  obtain ⟨H, hH⟩ : ∃ H, H = (((h.push ⟨x.cs v0 v1 v2, 0, 0⟩).push ⟨[AV.int .i64 0, AV.nils, AV.nils, AV.nils], 0, 0⟩).push ⟨[], 3, 0⟩) := ⟨_, rfl⟩
  have nH : H.n = h.n + 1 + 1 + 1 := by rw [hH]; rfl
  have eH : Ext h H := by rw [hH]; exact ((Ext.refl h).push _).push _ |>.push _
  have bx : Bk H h.n (x.cs v0 v1 v2) 0 := by rw [hH]; exact bk_auto
  have bo : Bk H (h.n + 1) [AV.int .i64 0, AV.nils, AV.nils, AV.nils] 0 := by rw [hH]; exact bk_auto
  have be : Bk H (h.n + 1 + 1) [] 3 := by rw [hH]; exact bk_push
  rw [← hH] at re oe
  have hH' := hH.symm
  simp only [push_n] at hH' re oe
  clear hH
  try rw [hH']
  clear hH'
  have r0 := r0.ext eH
  have r1 := r1.ext eH
  have r2 := r2.ext eH
  refine aw_call (s_spec_l8Lists x.near (by omega) _ _ _ r0) ?_
  rintro w1 h1 ⟨e1, G1, q1, o1⟩
  have n1 := e1.1
  have bx1 := bk_ext1 e1 bx
  have be1 := bk_ext1 e1 be
  have r2 := r2.ext e1
  have r1 := r1.ext e1
  (repeat' first|refine vs ?_|((with_reducible refine g_chkb ?_);refine w_chkb (by assumption) (by rfl) (by decide) (by rfl) ?_)|(refine br ?_ ?_<;>intro _<;>try(exfalso;first|omega|contradiction))|((with_reducible refine g_idx ?_);((first|refine ix ?_|refine ixi ?_|(refine ixg ?_;intro _ _)|(refine ixgi ?_;intro _ _));first|rintro _ _ _ _ _ ⟨rfl,rfl⟩ _|rintro _ _ _ _ _ ⟨_,rfl,_⟩ _|rintro _ _ _ _ _ ⟨_,_,_,_,rfl,rfl,_,_⟩ _|intro _ _ _ _ _ _ _))|(refine sx ?_;intro _ _)|((with_reducible refine g_awp ?_);simp only [g0,g1,g2]))
  refine aw_call (s_spec_l8Lists x.far (by omega) _ _ _ r1) ?_
  rintro w2 h2 ⟨e2, G2, q2, o2⟩
  have n2 := e2.1
  have bx2 := bk_ext1 e2 bx1
  have be2 := bk_ext1 e2 be1
  have r2 := r2.ext e2
  have re := (re.ext e1).ext e2
  have oe := (ol_ext1 e2 (ol_ext1 e1 ⟨oe, (fun c hc => by rw [List.mem_singleton.1 hc, nH]; omega : ∀ c ∈ [h.n + 1 + 1], c < H.n)⟩)).1
  (repeat' first|refine vs ?_|((with_reducible refine g_chkb ?_);refine w_chkb (by assumption) (by rfl) (by decide) (by rfl) ?_)|(refine br ?_ ?_<;>intro _<;>try(exfalso;first|omega|contradiction))|((with_reducible refine g_idx ?_);((first|refine ix ?_|refine ixi ?_|(refine ixg ?_;intro _ _)|(refine ixgi ?_;intro _ _));first|rintro _ _ _ _ _ ⟨rfl,rfl⟩ _|rintro _ _ _ _ _ ⟨_,rfl,_⟩ _|rintro _ _ _ _ _ ⟨_,_,_,_,rfl,rfl,_,_⟩ _|intro _ _ _ _ _ _ _))|(refine sx ?_;intro _ _)|((with_reducible refine g_awp ?_);simp only [g0,g1,g2]))
  refine app2M (n := h.n + 1 + 1) (xs := ([] : List Ab.Timer)) (ys := x.rest) re r2 oe (by omega) rfl (by simp; omega) (by simp; omega) ?_
  rintro w3 h3 G3 k3 q3 o3 m3
  have n3 := k3.1
  have bx3 := bk_kp1 k3 bx2 (by simp only [List.mem_singleton]; omega)
  have bo3 := bk_kp1 k3 (bk_ext1 e2 (bk_ext1 e1 bo)) (by simp only [List.mem_singleton]; omega)
  have d1 : ∀ c ∈ G1, c ∉ [h.n + 1 + 1] := fun c hc hX => by have := (o1.2 c hc).1; have := List.mem_singleton.1 hX; omega
  have d2 : ∀ c ∈ G2, c ∉ [h.n + 1 + 1] := fun c hc hX => by have := (o2.2 c hc).1; have := List.mem_singleton.1 hX; omega
  have l1 := q1.lt
  have l2 := q2.lt
  have o1' := ol_kp1 k3 (ol_ext1 e2 ⟨o1, l1⟩) d1
  have o2' := ol_kp1 k3 ⟨o2, l2⟩ d2
  have q1' := slr_kp1 k3 (q1.ext e2) d1
  have q2' := slr_kp1 k3 q2 d2
  have eT : Ext h h3 := Kp.ext (eH.trans (e1.trans e2)) k3 fun c hc => by rw [List.mem_singleton.1 hc]; omega
  have q3' : SlRep h3 w3 x.rest G3 := q3
  (repeat' first|refine vs ?_|(refine br ?_ ?_<;>intro _<;>try(exfalso;first|omega|contradiction))|((with_reducible refine g_idx ?_);((first|refine ix ?_|refine ixi ?_|(refine ixg ?_;intro _ _)|(refine ixgi ?_;intro _ _));first|rintro _ _ _ _ _ ⟨rfl,rfl⟩ _|rintro _ _ _ _ _ ⟨_,rfl,_⟩ _|rintro _ _ _ _ _ ⟨_,_,_,_,rfl,rfl,_,_⟩ _|intro _ _ _ _ _ _ _))|(refine sx ?_;intro _ _)|((with_reducible refine g_awp ?_);simp only [g0,g1,g2]))
  refine ⟨rfl, _, rfl, eT.upd (by simp only [push_n]; omega) _, _, G1 ++ (G2 ++ G3), rfl, ⟨_, _, _, _, _, _, rfl, rfl, ?_, ?_, ?_⟩, ?_⟩
  · refine slr_upd1 q1' fun hm => ?_
    have := (o1.2 _ hm).1; simp only [push_n] at this; omega
  · refine slr_upd1 q2' fun hm => ?_
    have := (o2.2 _ hm).1; simp only [push_n] at this; omega
  · refine slr_upd1 q3' fun hm => ?_
    rcases m3 _ hm with q | q
    · have := List.mem_singleton.1 q; simp only [push_n] at this; omega
    · simp only [push_n] at q; omega
  · have oo : OwnL (h.n + 1 + 1) h3 (G1 ++ (G2 ++ G3)) := ol_app2 ⟨o1'.1.mono (by omega) fun _ _ => rfl, o1'.2⟩ (ol_app2 ⟨o2'.1.mono (by omega) fun _ _ => rfl, o2'.2⟩ ⟨o3, q3.lt⟩ fun c hc hm => by
      rcases m3 c hm with q | q
      · exact d2 c hc q
      · have := l2 c hc; omega) fun c hc hm => by
      rcases List.mem_append.1 hm with hm | hm
      · have := l1 c hc; have := (o2.2 c hm).1; omega
      · rcases m3 c hm with q | q
        · exact d1 c hc q
        · have := l1 c hc; omega
    refine (ol_upd1 oo fun hm => ?_).1.mono (by omega) fun _ _ => rfl
    have := (oo.1.2 _ hm).1; simp only [push_n] at this; omega
end Go.Proofs.YtekfdoknfcedpaaGreat
end
section
/- What is remembered: the functions (turned from V1, V3, V6, V7). -/
set_option linter.unusedSimpArgs false
set_option linter.unusedVariables false
set_option maxHeartbeats 2000000
namespace Go.Proofs.YtekfdoknfcedpaaGreat
open Go Go.Ab
section
/- impl.VerdictOf -/
/- spec.VerdictOf -/
/- impl.Remember$1 -/
/- slices.DeleteFunc[[]impl.Verdict,impl.Verdict] -/
/- impl.Remember -/
/- spec.Remember -/
end
def keepers (xs : List Verdict) (v : Verdict) : List Verdict := (xs.filter fun x => !isT v.trace x) ++ [v]
def gone (l : List Verdict) (d : Nat) : Int := match d with
  | 0 => 0
  | d + 1 => match l[d]? with
    | some v => v.trace
    | none => 0
def rem (xs : List Verdict) (v : Verdict) (most : Int) : List Verdict × Int :=
  if most < 1 then (xs, 0) else ((keepers xs v).drop ((keepers xs v).length - most.toNat), gone (keepers xs v) ((keepers xs v).length - most.toNat))

section
variable {P : Program} {h : AH} {Q : Nat → List AV → AH → Prop} {k : AV → Prog}
end
end Go.Proofs.YtekfdoknfcedpaaGreat
end
section
/- Worlds: the time, and how many are busy. -/
set_option linter.unusedSimpArgs false
set_option linter.unusedVariables false
set_option maxHeartbeats 4000000
namespace Go.Proofs.YtekfdoknfcedpaaGreat
open Go Go.Ab
section
/- impl.TimeOf -/
def p_impl_TimeOf (x0 : AV) : Prog := .op (.box x0) fun a=>.op (.fad 22 a) fun a=>Lg 0 a fun a=>.fin [.val a]
theorem c_impl_TimeOf (x0 : AV) : CC Tryz.prog n_impl_TimeOf [x0] (p_impl_TimeOf x0) := cc Tryz.func81
end
theorem s_impl_TimeOf {h : AH} {x : Wld} {cs : List AV} {F : List Nat} (r : Cel.rep h x cs F) : RCalls Tryz.prog n_impl_TimeOf [.agg cs] h (.int .i64 x.w.now) := by
  obtain ⟨v0, v1, v2, v3, v4, v5, v6, v7, v8, v9, v10, F0, F1, F2, F3, F4, F5, F6, F7, F8, F9, F10, rfl, rfl, r0, r1, r2, r3, r4, r5, r6, r7, r8, r9, r10⟩ := r
  refine reader (c_impl_TimeOf _) (by simp only [old]) ?_
  unfold p_impl_TimeOf
  (repeat' first|refine vs ?_|(refine br ?_ ?_<;>intro _<;>try(exfalso;first|omega|contradiction))|((with_reducible refine g_idx ?_);((first|refine ix ?_|refine ixi ?_|(refine ixg ?_;intro _ _)|(refine ixgi ?_;intro _ _));first|rintro _ _ _ _ _ ⟨rfl,rfl⟩ _|rintro _ _ _ _ _ ⟨_,rfl,_⟩ _|rintro _ _ _ _ _ ⟨_,_,_,_,rfl,rfl,_,_⟩ _|intro _ _ _ _ _ _ _))|(refine sx ?_;intro _ _)|((with_reducible refine g_awp ?_);simp only [g0,g1,g2]))
  exact pi rfl
end Go.Proofs.YtekfdoknfcedpaaGreat
end
