/- The shallow program of a function tells what the function does: all of it. -/
import Derived.Test.YtjikmaajdpcnhaaAb19
set_option linter.unusedSimpArgs false
set_option linter.unusedVariables false
namespace Go.Ab
open Go.RowKit

variable {B : Nat} {w0 w w' : World} {m m' : BM} {h : AH} {P : Program}

/-- What a function's results are read from. -/
def rsOf (P : Program) (rvs : List ResultVar) (env : List AV) : List RV :=
  rvs.map fun
    | .tmp t => .val (env.getD t .un)
    | .cell a t => match P.underlying t, P.info? t with
      | some (.struct _), some i => .cn i.size (env.getD a .un)
      | some d, _ => if plainD d = true then .c1 (env.getD a .un) else .c1 .un
      | _, _ => .c1 .un

theorem rv_cell (s : Sim B w0 m h w) {t : TypeId} {a v : AV} {va : Value} (r : VRel m a va)
    (hv : (match P.underlying t, P.info? t with
      | some (.struct _), some i => RV.cn i.size a
      | some d, _ => if plainD d = true then .c1 a else .c1 .un
      | _, _ => .c1 .un).get h = some v) :
    ∃ u, (do loadVar t (← asAddr va) : Sem Value).run P w = .ok u w ∧ VRel m v u := by
  split at hv
  · rename_i fs i hu hi
    simp only [RV.get] at hv
    split at hv
    · rename_i b o
      split at hv
      · cases hv
      · rename_i hst
        split at hv
        · rename_i hn
          simp only [Option.some.injEq] at hv; subst hv
          simp only [VRel] at r
          obtain ⟨p, hp, rfl⟩ := r
          obtain ⟨l, h1, h2, h3, h4⟩ := s.read hp hst hn
          have hrun := run_loadCells_list (P := P) w (⟨p.rb, p.ro + o, none⟩ : Addr) l h4
          rw [h3] at hrun
          refine ⟨.agg l.toArray, ?_, by simp only [VRel]; exact ⟨l, h1, h2, rfl⟩⟩
          simp [asAddr, loadVar, isAgg, run_underlying hu, run_size hi, hrun]
        · cases hv
    · cases hv
  · rename_i d hu _
    split at hv
    · rename_i hpl
      simp only [RV.get] at hv
      split at hv
      · rename_i b o
        split at hv
        · cases hv
        · rename_i hst
          simp only [VRel] at r
          obtain ⟨p, hp, rfl⟩ := r
          obtain ⟨v', h1, h2, h3⟩ := (s.blk b p hp hst).2 o v hv
          exact ⟨v', by simp [asAddr, loadVar, run_agg0 (by assumption) hpl, h1], h2⟩
      · cases hv
    · simp [RV.get] at hv
  · simp [RV.get] at hv

def resOne (tmps : Array Value) : ResultVar → Sem Value
  | .tmp t => pure (tmps.getD t undef)
  | .cell a t => do loadVar t (← asAddr (tmps.getD a undef))
theorem results_eq (f : Func) (tmps : Array Value) : results f tmps = (do
    let vs ← f.results.mapM (resOne tmps)
    pure (if h : vs.size = 1 then vs[0] else .tuple vs)) := by
  have e : (fun x : ResultVar => (match x with
      | .tmp t => pure (tmps.getD t undef)
      | .cell a t => do loadVar t (← asAddr (tmps.getD a undef)) : Sem Value)) = resOne tmps := by funext x; cases x <;> rfl
  rw [← e]
  rfl

theorem results_sound {f : Func} {env : List AV} {a : Act} (r : VRels m env a.tmps.toList) (s : Sim B w0 m h w) {vs : List AV} (hv : rvals h (rsOf P f.results.toList env) = some vs) :
    ∃ v, (results f a.tmps).run P w = .ok v w ∧ VRel m (retv vs) v := by
  have key : ∀ (l : List ResultVar) (vs : List AV), rvals h (rsOf P l env) = some vs → ∃ us : List Value, (l.mapM (resOne a.tmps)).run P w = .ok us w ∧ VRels m vs us := by
    intro l
    induction l with
    | nil => intro vs hv; simp [rsOf, rvals] at hv; subst hv; exact ⟨[], rfl, VRels.nil⟩
    | cons x l ih =>
      intro vs hv
      simp only [rsOf, List.map_cons, rvals] at hv
      split at hv
      · rename_i v vs' h1 h2
        simp only [Option.some.injEq] at hv; subst hv
        obtain ⟨us, g1, g2⟩ := ih vs' h2
        have hx : ∃ u, (resOne a.tmps x).run P w = .ok u w ∧ VRel m v u := by
          cases x with
          | tmp t =>
            simp only [RV.get, Option.some.injEq] at h1; subst h1
            exact ⟨_, rfl, by simpa using vrel_getD r t undef⟩
          | cell ad t => exact rv_cell s (by simpa using vrel_getD r ad undef) h1
        obtain ⟨u, g3, g4⟩ := hx
        refine ⟨u :: us, ?_, VRels.cons g4 g2⟩
        rw [List.mapM_cons]
        simp [g3, g1]
      · cases hv
  obtain ⟨us, g1, g2⟩ := key _ _ hv
  have hrun : (results f a.tmps).run P w = .ok (if hh : us.toArray.size = 1 then us.toArray[0] else .tuple us.toArray) w := by
    rw [results_eq, Array.mapM_eq_mapM_toList]
    simp only [bind_map_left, Sem.run_bind, g1, Result.andThen_ok]
    simp
  refine ⟨_, hrun, ?_⟩
  cases g2' : us with
  | nil =>
    subst g2'
    have : vs = [] := List.length_eq_zero_iff.1 (by rw [g2.length]; rfl)
    subst this
    simp only [retv, VRel]; exact ⟨[], VRels.nil, by simp⟩
  | cons u us' =>
    subst g2'
    cases vs with
    | nil => have := g2.length; simp at this
    | cons v vs' =>
      obtain ⟨u2, us2, e, r1, r2⟩ := g2.cons_inv
      cases e
      cases us' with
      | nil =>
        have : vs' = [] := List.length_eq_zero_iff.1 (by rw [r2.length]; rfl)
        subst this
        simpa [retv] using r1
      | cons u3 us3 =>
        cases vs' with
        | nil => have := r2.length; simp at this
        | cons v3 vs3 =>
          simp only [retv, VRel]
          exact ⟨_, g2, by simp⟩

/-- What is told of a code's end. -/
def CPost (P : Program) (f : Func) (B : Nat) (w0 : World) (n0 : Nat) (m0 : BM) (a0 : Act) (W : List Nat) (kn : List AV → Prog) (kx : Nat → List AV → Prog) (Q : Nat → List AV → AH → Prop) : Exit → Act → World → Prop := fun e a w =>
  a.defers = [] ∧ Kept W a0 a ∧ ∃ (m : BM) (h : AH), Grow n0 m0 h.n m ∧ Sim B w0 m h w ∧ (match e with
    | .normal => ∃ env, VRels m env a.tmps.toList ∧ (kn env).awp P h Q
    | .exit id => ∃ env, VRels m env a.tmps.toList ∧ (kx id env).awp P h Q
    | .ret => ∃ v av, (results f a.tmps).run P w = .ok v w ∧ VRel m av v ∧ Q 1 [av] h
    | _ => False)

theorem wp_loop_n {c : Code} {Q : Exit → Act → World → Prop} (I : Nat → Act → World → Prop) {n : Nat} {a : Act} (h0 : I n a w)
    (round : ∀ n a w, I n a w → c.wp P (Exit.then (fun a' w' => ∃ n', n' < n ∧ I n' a' w') Q) a w) : (Code.loop c).wp P Q a w := by
  intro b k cs
  have key : ∀ (n : Nat) (a : Act) (w : World), I n a w → ∃ e a' w', Q e a' w' ∧ Arrives P (lone (b.at a (.code c :: .inLoop c :: k)) cs w) b k cs e a' w' := by
    intro n
    induction n using Nat.strongRecOn with
    | _ n ih =>
      intro a w hI
      obtain ⟨e, a1, w1, hq, harr⟩ := round n a w hI b (.inLoop c :: k) cs
      cases e with
      | normal =>
        obtain ⟨n', hlt, hI1⟩ := hq
        obtain ⟨e2, a2, w2, hq2, harr2⟩ := ih n' hlt a1 w1 hI1
        exact ⟨e2, a2, w2, hq2, .of_steps (Steps.trans harr (.one step_inLoop)) harr2⟩
      | exit id => exact ⟨_, a1, w1, hq, .pass (x := .inLoop c) rfl (fun _ _ => .inl (by simp)) harr⟩
      | goto l => exact ⟨_, a1, w1, hq, .pass (x := .inLoop c) rfl (fun _ _ => .inl (by simp)) harr⟩
      | ret => exact ⟨_, a1, w1, hq, .pass (x := .inLoop c) rfl (fun _ _ => .inl (by simp)) harr⟩
      | panic ch => exact ⟨_, a1, w1, hq, .pass (x := .inLoop c) rfl (fun _ _ => .inl (by simp)) harr⟩
      | outgrown => exact ⟨_, a1, w1, hq, .pass (x := .inLoop c) rfl (fun _ _ => .inl (by simp)) harr⟩
  obtain ⟨e, a', w', hq, harr⟩ := key n a w h0
  exact ⟨e, a', w', hq, .of_steps (.one step_loop) harr⟩

theorem tr_sound (hm : P.follows .mixedOrders = true) (f : Func) (lv : List Nat) (sch : Nat → List (Nat × List Nat)) : ∀ (c : Code) (env : List AV) (kn : List AV → Prog) (kx : Nat → List AV → Prog) (Q : Nat → List AV → AH → Prop) (h : AH) (m : BM) (a : Act) (w : World),
    Sim B w0 m h w → VRels m env a.tmps.toList → a.defers = [] → (tr P lv sch (rsOf P f.results.toList) c env kn kx).awp P h Q → c.wp P (CPost P f B w0 h.n m a (wr c) kn kx Q) a w := by
  intro c
  induction c with
  | skip => intro env kn kx Q h m a w s r hd g; exact wp_skip ⟨hd, Kept.refl _ _, m, h, Grow.refl _ _, s, env, r, g⟩
  | ret =>
    intro env kn kx Q h m a w s r hd g
    simp only [tr, Prog.awp] at g
    split at g
    · rename_i vs hv
      obtain ⟨v, h1, h2⟩ := results_sound r s hv
      exact wp_ret ⟨hd, Kept.refl _ _, m, h, Grow.refl _ _, s, v, retv vs, h1, h2, g⟩
    · exact g.elim
  | exit id => intro env kn kx Q h m a w s r hd g; exact wp_exit ⟨hd, Kept.refl _ _, m, h, Grow.refl _ _, s, env, r, g⟩
  | seq x y ihx ihy =>
    intro env kn kx Q h m a w s r hd g
    refine wp_seq (wp_mono (ihx env _ kx Q h m a w s r hd g) ?_)
    rintro e a1 w1 ⟨hd1, hk1, m1, h1, g1, s1, hh⟩
    cases e with
    | normal =>
      obtain ⟨env1, r1, gg⟩ := hh
      refine wp_mono (ihy env1 kn kx Q h1 m1 a1 w1 s1 r1 hd1 gg) ?_
      rintro e a2 w2 ⟨hd2, hk2, m2, h2, g2, s2, hh⟩
      exact ⟨hd2, hk1.trans hk2, m2, h2, g1.trans g2, s2, hh⟩
    | exit id => exact ⟨hd1, hk1.mono fun t ht => by simp [wr]; exact .inl ht, m1, h1, g1, s1, hh⟩
    | ret => exact ⟨hd1, hk1.mono fun t ht => by simp [wr]; exact .inl ht, m1, h1, g1, s1, hh⟩
    | goto l => exact hh.elim
    | panic ch => exact hh.elim
    | outgrown => exact hh.elim
  | region id ops draw =>
    intro env kn kx Q h m a w s r hd g
    simp only [tr] at g
    split at g
    · rename_i hdr
      split at g
      · rename_i hok
        subst hdr
        exact draw_sound hok hm s r hd g fun env' a' m' h' w' g1 g2 g3 g4 g5 g6 => ⟨g4, g5, m', h', g1, g2, env', g3, g6⟩
      · exact g.elim
    · rename_i hdr
      have : draw = false := by simpa using hdr
      subst this
      refine wp_region (ops_sound (n0 := h.n) (m0 := m) (a0 := a) ?_ _ env a m h w (Grow.refl _ _) s r hd (Kept.refl _ _) g)
      intro env' a' m' h' w' g1 g2 g3 g4 g5 g6
      exact ⟨g4, g5, m', h', g1, g2, env', g3, g6⟩
  | cond c x y ihx ihy =>
    intro env kn kx Q h m a w s r hd g
    have hc := evE_rel r c
    simp only [tr] at g
    split at g
    · -- the ways meet again
      simp only [Prog.awp] at g
      have fin : ∀ {z : Code}, (∀ t, t ∈ wr z → t ∈ wr (.cond c x y)) → z.wp P (CPost P f B w0 h.n m a (wr z) (fun e => .leaf 0 (pack e (keepL (.cond c x y) lv))) (fun id e => .leaf (id + 2) (pack e (keepL (.cond c x y) lv)))
          (fun tag vs h' => if tag = 0 then (kn (unpack (forget env (wr (.cond c x y))) (keepL (.cond c x y) lv) vs)).awp P h' Q
            else (afterX tag vs (.cond c x y) fun id => kx id (unpack (forget env (wr (.cond c x y))) (keepL (.cond c x y) lv) vs)).awp P h' Q)) a w →
          z.wp P (CPost P f B w0 h.n m a (wr (.cond c x y)) kn kx Q) a w := by
        intro z hz hw
        refine wp_mono hw ?_
        rintro e a1 w1 ⟨hd1, hk1, m1, h1, g1, s1, hh⟩
        have hk2 := hk1.mono hz
        refine ⟨hd1, hk2, m1, h1, g1, s1, ?_⟩
        cases e with
        | normal =>
          obtain ⟨env1, r1, gg⟩ := hh
          simp only [Prog.awp, if_true] at gg
          exact ⟨_, again_rel r (g1.le s) hk2 r1 _, gg⟩
        | exit id =>
          obtain ⟨env1, r1, gg⟩ := hh
          simp only [Prog.awp] at gg
          rw [if_neg (by omega)] at gg
          replace gg := afterX_awp gg
          exact ⟨_, again_rel r (g1.le s) hk2 r1 _, gg⟩
        | ret =>
          obtain ⟨v, av, e1, e2, e3⟩ := hh
          simp [Prog.awp, afterX, tsel] at e3
          exact ⟨v, av, e1, e2, e3⟩
        | goto l => exact hh.elim
        | panic ch => exact hh.elim
        | outgrown => exact hh.elim
      split at g
      · rename_i b hb
        rw [hb] at hc
        simp only [VRel] at hc
        split at g
        · rename_i e; subst e
          exact wp_cond_true hc (fin (fun t ht => by simp [wr]; exact .inl ht) (ihx env _ _ _ h m a w s r hd g))
        · rename_i e
          have : b = false := by simpa using e
          subst this
          exact wp_cond_false hc (fin (fun t ht => by simp [wr]; exact .inr ht) (ihy env _ _ _ h m a w s r hd g))
      · exact g.elim
    · simp only [Prog.awp] at g
      split at g
      · rename_i b hb
        rw [hb] at hc
        simp only [VRel] at hc
        split at g
        · rename_i e; subst e
          refine wp_cond_true hc (wp_mono (ihx env kn kx Q h m a w s r hd g) ?_)
          rintro e a1 w1 ⟨hd1, hk1, rest⟩
          exact ⟨hd1, hk1.mono fun t ht => by simp [wr]; exact .inl ht, rest⟩
        · rename_i e
          have : b = false := by simpa using e
          subst this
          refine wp_cond_false hc (wp_mono (ihy env kn kx Q h m a w s r hd g) ?_)
          rintro e a1 w1 ⟨hd1, hk1, rest⟩
          exact ⟨hd1, hk1.mono fun t ht => by simp [wr]; exact .inr ht, rest⟩
      · exact g.elim
  | block id x ih =>
    intro env kn kx Q h m a w s r hd g
    simp only [tr] at g
    refine wp_block ?_
    split at g
    · simp only [Prog.awp] at g
      refine wp_mono (ih env _ _ _ h m a w s r hd g) ?_
      rintro e a1 w1 ⟨hd1, hk1, m1, h1, g1, s1, hh⟩
      cases e with
      | normal =>
        obtain ⟨env1, r1, gg⟩ := hh
        simp only [Prog.awp, if_true] at gg
        exact ⟨hd1, hk1, m1, h1, g1, s1, _, again_rel r (g1.le s) hk1 r1 _, gg⟩
      | exit id' =>
        obtain ⟨env1, r1, gg⟩ := hh
        simp only [Exit.inBlock]
        dsimp only at gg
        split at gg
        · rename_i e; rw [if_pos e]
          simp only [Prog.awp, if_true] at gg
          exact ⟨hd1, hk1, m1, h1, g1, s1, _, again_rel r (g1.le s) hk1 r1 _, gg⟩
        · rename_i e; rw [if_neg e]
          simp only [Prog.awp] at gg
          rw [if_neg (by omega)] at gg
          replace gg := afterX_awp gg
          exact ⟨hd1, hk1, m1, h1, g1, s1, _, again_rel r (g1.le s) hk1 r1 _, gg⟩
      | ret =>
        obtain ⟨v, av, e1, e2, e3⟩ := hh
        simp [Prog.awp, afterX, tsel] at e3
        exact ⟨hd1, hk1, m1, h1, g1, s1, v, av, e1, e2, e3⟩
      | goto l => exact hh.elim
      | panic ch => exact hh.elim
      | outgrown => exact hh.elim
    · refine wp_mono (ih env _ _ _ h m a w s r hd g) ?_
      rintro e a1 w1 ⟨hd1, hk1, m1, h1, g1, s1, hh⟩
      cases e with
      | normal => exact ⟨hd1, hk1, m1, h1, g1, s1, hh⟩
      | exit id' =>
        obtain ⟨env1, r1, gg⟩ := hh
        simp only [Exit.inBlock]
        dsimp only at gg
        split at gg
        · rename_i e; rw [if_pos e]; exact ⟨hd1, hk1, m1, h1, g1, s1, env1, r1, gg⟩
        · rename_i e; rw [if_neg e]; exact ⟨hd1, hk1, m1, h1, g1, s1, env1, r1, gg⟩
      | ret => exact ⟨hd1, hk1, m1, h1, g1, s1, hh⟩
      | goto l => exact hh.elim
      | panic ch => exact hh.elim
      | outgrown => exact hh.elim
  | loop x ih =>
    intro env kn kx Q h m a w s r hd g
    simp only [tr, Prog.awp] at g
    obtain ⟨I, μ, hI, hr⟩ := g
    refine wp_loop_n (n := μ (pack env (keepL x lv)) h) (fun n a1 w1 => a1.defers = [] ∧ Kept (wr x) a a1 ∧ ∃ (m1 : BM) (h1 : AH) (vs : List AV), Grow h.n m h1.n m1 ∧ Sim B w0 m1 h1 w1 ∧ VRels m1 (unpack (forget env (wr x)) (keepL x lv) vs) a1.tmps.toList ∧ I vs h1 ∧ μ vs h1 = n) ?_ ?_
    · exact ⟨hd, Kept.refl _ _, m, h, _, Grow.refl _ _, s, again_rel r (m.le_refl) (Kept.refl _ _) r _, hI, rfl⟩
    · rintro n a1 w1 ⟨hd1, hk1, m1, h1, vs, g1, s1, r1, hI1, rfl⟩
      refine wp_mono (ih _ _ _ _ h1 m1 a1 w1 s1 r1 hd1 (hr vs h1 hI1)) ?_
      rintro e a2 w2 ⟨hd2, hk2, m2, h2, g2, s2, hh⟩
      have hk3 : Kept (wr x) a a2 := (hk1.trans hk2).mono fun t ht => by simpa using ht
      cases e with
      | normal =>
        obtain ⟨env2, r2, gg⟩ := hh
        simp only [Prog.awp, if_true] at gg
        exact ⟨_, gg.2, hd2, hk3, m2, h2, _, g1.trans g2, s2, again_rel r ((g1.trans g2).le s) hk3 r2 _, gg.1, rfl⟩
      | exit id =>
        obtain ⟨env2, r2, gg⟩ := hh
        simp only [Prog.awp] at gg
        rw [if_neg (by omega)] at gg
        replace gg := afterX_awp gg
        exact ⟨hd2, hk3, m2, h2, g1.trans g2, s2, _, again_rel r ((g1.trans g2).le s) hk3 r2 _, gg⟩
      | ret =>
        obtain ⟨v, av, e1, e2, e3⟩ := hh
        simp [Prog.awp, afterX, tsel] at e3
        exact ⟨hd2, hk3, m2, h2, g1.trans g2, s2, v, av, e1, e2, e3⟩
      | goto l => exact hh.elim
      | panic ch => exact hh.elim
      | outgrown => exact hh.elim
  | _ => intro env kn kx Q h m a w s r hd g; exact g.elim

/-- The shallow program of a function. -/
def trF (P : Program) (f : Func) (lv : List Nat) (sch : Nat → List (Nat × List Nat)) (args : List AV) : Prog :=
  match f.body with
  | some c => tr P lv sch (rsOf P f.results.toList) c (args ++ List.replicate (f.ntmps - args.length) (.tup [])) (fun env => .fin (rsOf P f.results.toList env)) (fun _ _ => .bad)
  | none => .bad

theorem vrels_undef (n : Nat) : VRels m (List.replicate n (.tup [])) (List.replicate n undef) := vrels_replicate vrel_tup0 n

/-- A contract of a function out of its shallow program. -/
theorem acalls_of (hm : P.follows .mixedOrders = true) {fi : FuncId} {f : Func} (hf : P.funcs[fi]? = some f) (hn : (f.name == "runtime.NumGoroutine") = false) (hb : f.body.isNone = false) (lv : List Nat) (sch : Nat → List (Nat × List Nat)) {args : List AV} {h : AH} {R : AV → AH → Prop} {p : Prog}
    (hp : trF P f lv sch args = p) (g : p.awp P h fun t vs h' => t = 1 ∧ ∃ v, vs = [v] ∧ R v h') : ACalls P fi args h R := by
  refine ⟨⟨f, hf, hn, hb⟩, fun B w0 m w l s hl => ?_⟩
  subst hp
  unfold trF at g
  split at g
  · rename_i c hc
    refine calls_of_wp hf hc ?_
    have hlen := hl.length
    refine wp_mono (tr_sound hm f lv sch c _ _ _ _ h m _ w s ?_ rfl g) ?_
    · simpa [hlen] using hl.append (vrels_undef (f.ntmps - args.length))
    · rintro e a' w' ⟨hd, hk, m', h', g1, s', hh⟩
      cases e with
      | normal =>
        obtain ⟨env', r', gg⟩ := hh
        simp only [Prog.awp] at gg
        split at gg
        · rename_i vs hv
          obtain ⟨v, e1, e2⟩ := results_sound r' s' hv
          obtain ⟨_, av, e3, e4⟩ := gg
          cases e3
          exact ⟨hd, v, e1, v, _, m', h', rfl, g1, s', e2, e4⟩
        · exact gg.elim
      | exit id => obtain ⟨env', r', gg⟩ := hh; exact gg.elim
      | ret =>
        obtain ⟨v, av, e1, e2, _, av', e3, e4⟩ := hh
        cases e3
        exact ⟨hd, v, e1, v, _, m', h', rfl, g1, s', e2, e4⟩
      | goto l => exact hh.elim
      | panic ch => exact hh.elim
      | outgrown => exact hh.elim
  · exact g.elim

end Go.Ab
