/- Marks on what is nested: fields, one by one. -/
import Derived.Test.YtjikmaajdpcnhaaAb32
set_option linter.unusedSimpArgs false
set_option linter.unusedVariables false
namespace Go.Ab
open Go.RowKit

/-- How a number is written in a mark. -/
def mdig : Nat → Nat → List UInt8
  | 0, _ => []
  | fuel + 1, k => if k = 0 then [] else mdig fuel (k / 10) ++ [UInt8.ofNat (48 + k % 10)]
def mtext (k : Int) : ByteArray := if k ≤ 0 then ⟨#[109, 48]⟩ else ⟨(109 :: mdig k.toNat k.toNat).toArray⟩

/-- A field's value. -/
inductive FV : Type 1 where
  | i (n : Int)
  | b (x : Bool)
  | s (x : ByteArray)
  | l {β : Type} (c : Cel β) (m : Mk β) (xs : List β)
def RepF (h : AH) : List FV → List AV → List Nat → Prop
  | [], cs, F => cs = [] ∧ F = []
  | .i n :: fs, cs, F => ∃ d, cs = .int .i64 n :: d ∧ RepF h fs d F
  | .b n :: fs, cs, F => ∃ d, cs = .bool n :: d ∧ RepF h fs d F
  | .s n :: fs, cs, F => ∃ d, cs = .str n :: d ∧ RepF h fs d F
  | .l c _ xs :: fs, cs, F => ∃ v d F1 F2, cs = v :: d ∧ F = F1 ++ F2 ∧ SlRep h v xs F1 ∧ RepF h fs d F2
def putF : Int → List FV → List FV × Int
  | m, [] => ([], m)
  | m, .i _ :: fs => (.i m :: (putF (m + 1) fs).1, (putF (m + 1) fs).2)
  | m, .b _ :: fs => (.b (decide (m.tmod 3 = 0)) :: (putF (m + 1) fs).1, (putF (m + 1) fs).2)
  | m, .s _ :: fs => (.s (mtext m) :: (putF (m + 1) fs).1, (putF (m + 1) fs).2)
  | m, .l c k xs :: fs => (.l c k (mks m xs).1 :: (putF (mks m xs).2 fs).1, (putF (mks m xs).2 fs).2)

theorem RepF.lt {h : AH} : ∀ {fs : List FV} {cs : List AV} {F : List Nat}, RepF h fs cs F → ∀ b ∈ F, b < h.n
  | [], cs, F, r => by obtain ⟨_, rfl⟩ := r; simp
  | .i _ :: fs, cs, F, r => by obtain ⟨d, _, r⟩ := r; exact r.lt
  | .b _ :: fs, cs, F, r => by obtain ⟨d, _, r⟩ := r; exact r.lt
  | .s _ :: fs, cs, F, r => by obtain ⟨d, _, r⟩ := r; exact r.lt
  | .l c _ xs :: fs, cs, F, r => by
    obtain ⟨v, d, F1, F2, _, rfl, r1, r2⟩ := r
    intro b hb
    rcases List.mem_append.1 hb with hb | hb
    · exact r1.lt b hb
    · exact r2.lt b hb
theorem RepF.keep {h h' : AH} : ∀ {fs : List FV} {cs : List AV} {F : List Nat}, RepF h fs cs F → (∀ b ∈ F, h'.get b = h.get b ∧ b < h'.n) → RepF h' fs cs F
  | [], cs, F, r, _ => r
  | .i _ :: fs, cs, F, r, k => by obtain ⟨d, e, r⟩ := r; exact ⟨d, e, r.keep k⟩
  | .b _ :: fs, cs, F, r, k => by obtain ⟨d, e, r⟩ := r; exact ⟨d, e, r.keep k⟩
  | .s _ :: fs, cs, F, r, k => by obtain ⟨d, e, r⟩ := r; exact ⟨d, e, r.keep k⟩
  | .l c _ xs :: fs, cs, F, r, k => by
    obtain ⟨v, d, F1, F2, e, rfl, r1, r2⟩ := r
    exact ⟨v, d, F1, F2, e, rfl, r1.keep fun b hb => k b (List.mem_append_left _ hb), r2.keep fun b hb => k b (List.mem_append_right _ hb)⟩
theorem RepF.length {h : AH} : ∀ {fs : List FV} {cs : List AV} {F : List Nat}, RepF h fs cs F → cs.length = fs.length
  | [], cs, F, r => by obtain ⟨rfl, _⟩ := r; rfl
  | .i _ :: fs, cs, F, r => by obtain ⟨d, rfl, r⟩ := r; simp [r.length]
  | .b _ :: fs, cs, F, r => by obtain ⟨d, rfl, r⟩ := r; simp [r.length]
  | .s _ :: fs, cs, F, r => by obtain ⟨d, rfl, r⟩ := r; simp [r.length]
  | .l c _ xs :: fs, cs, F, r => by obtain ⟨v, d, F1, F2, rfl, rfl, r1, r2⟩ := r; simp [r2.length]
theorem putF_len : ∀ (fs : List FV) (m : Int), (putF m fs).1.length = fs.length
  | [], m => rfl
  | .i _ :: fs, m => by simp [putF, putF_len fs]
  | .b _ :: fs, m => by simp [putF, putF_len fs]
  | .s _ :: fs, m => by simp [putF, putF_len fs]
  | .l c _ xs :: fs, m => by simp [putF, putF_len fs]

def UpF : List FV → Prop
  | [] => True
  | .l _ k xs :: fs => (∀ m, m ≤ (mks m xs).2) ∧ UpF fs
  | _ :: fs => UpF fs
/-- A type whose values are told by their fields. -/
class Fld (α : Type) [Cel α] [Mk α] where
  f : α → List FV
  rep : ∀ (h : AH) (x : α) (cs : List AV) (F : List Nat), Cel.rep h x cs F ↔ RepF h (f x) cs F
  put : ∀ (m : Int) (x : α), f (Mk.put m x).1 = (putF m (f x)).1 ∧ (Mk.put m x).2 = (putF m (f x)).2
  ups : ∀ x, UpF (f x)

/-- Marks only rise. -/
class MkUp (α : Type) [Mk α] where
  up : ∀ (m : Int) (x : α), m ≤ (Mk.put m x).2
theorem mks_up {α : Type} [Mk α] [MkUp α] : ∀ (xs : List α) (m : Int), m ≤ (mks m xs).2
  | [], m => by simp [mks]
  | x :: xs, m => by
    have := MkUp.up m x
    have := mks_up xs (Mk.put m x).2
    simp only [mks]; omega
theorem putF_up : ∀ (fs : List FV) (m : Int), UpF fs → m ≤ (putF m fs).2
  | [], m, _ => by simp [putF]
  | .i _ :: fs, m, u => by have := putF_up fs (m + 1) u; simp only [putF]; omega
  | .b _ :: fs, m, u => by have := putF_up fs (m + 1) u; simp only [putF]; omega
  | .s _ :: fs, m, u => by have := putF_up fs (m + 1) u; simp only [putF]; omega
  | .l c k xs :: fs, m, u => by have := u.1 m; have := putF_up fs (mks m xs).2 u.2; simp only [putF]; omega

/-! ### The shallow programs -/
inductive MKd where
  | i
  | b
  | s (f : FuncId)
  | l (f : FuncId)
def fads : List Nat → AV → (AV → Prog) → Prog
  | [], v, K => K v
  | p :: ps, v, K => .op (.fad p v) fun v => fads ps v K
def mBody (w : Nat) (x0 i : AV) : List (List Nat × MKd) → AV → (AV → Prog) → Prog
  | [], k, K => K k
  | (p, .i) :: fs, k, K => .op (.idx w x0 i) fun v => fads p v fun v => .op (.st 1 v k) fun _ => .op (.bin 0 .add k (.int .i64 1)) fun k => mBody w x0 i fs k K
  | (p, .b) :: fs, k, K => .op (.bin 0 .rem k (.int .i64 3)) fun a => .op (.bin 0 .eql a (.int .i64 0)) fun a => .op (.idx w x0 i) fun v => fads p v fun v => .op (.st 1 v a) fun _ => .op (.bin 0 .add k (.int .i64 1)) fun k => mBody w x0 i fs k K
  | (p, .s f) :: fs, k, K => .op (.call f [k]) fun a => .op (.idx w x0 i) fun v => fads p v fun v => .op (.st 1 v a) fun _ => .op (.bin 0 .add k (.int .i64 1)) fun k => mBody w x0 i fs k K
  | (p, .l f) :: fs, k, K => .op (.idx w x0 i) fun v => fads p v fun v => .op (.ld1 v) fun v => .op (.call f [v, k]) fun k => mBody w x0 i fs k K
def pMark (w : Nat) (fs : List (List Nat × MKd)) (x0 x1 : AV) : Prog := .loop [x1, AV.int .i64 0] (fun vs => .op (.len 0 x0) fun v => .op (.bin 0 .lss (g vs 1) v) fun v => .ite v (mBody w x0 (g vs 1) fs (g vs 0) fun k => .op (.bin 0 .add (g vs 1) (AV.int .i64 1)) fun j => .leaf 0 [k, j]) (.leaf 2 [g vs 0, g vs 1])) fun t vs => tsel t 1 (.leaf 1 vs) (tsel t 2 (.fin [.val (g vs 0)]) .bad)
def hBody (w : Nat) (x0 i : AV) : List (List Nat × MKd) → AV → (AV → Prog) → Prog
  | [], k, K => K k
  | (p, .i) :: fs, k, K => .op (.idx w x0 i) fun v => fads p v fun v => .op (.ld1 v) fun v => .op (.bin 0 .neq v k) fun v => .ite v (.fin [.val (AV.int .i64 (-1))]) (.op (.bin 0 .add k (.int .i64 1)) fun k => hBody w x0 i fs k K)
  | (p, .b) :: fs, k, K => .op (.idx w x0 i) fun v => fads p v fun v => .op (.ld1 v) fun v => .op (.bin 0 .rem k (.int .i64 3)) fun a => .op (.bin 0 .eql a (.int .i64 0)) fun a => .op (.bin 2 .neq v a) fun v => .ite v (.fin [.val (AV.int .i64 (-1))]) (.op (.bin 0 .add k (.int .i64 1)) fun k => hBody w x0 i fs k K)
  | (p, .s f) :: fs, k, K => .op (.idx w x0 i) fun v => fads p v fun v => .op (.ld1 v) fun u => .op (.call f [k]) fun a => .chk (.ld1 v) u (.op (.bin 1 .neq u a) fun v => .ite v (.fin [.val (AV.int .i64 (-1))]) (.op (.bin 0 .add k (.int .i64 1)) fun k => hBody w x0 i fs k K))
  | (p, .l f) :: fs, k, K => .op (.idx w x0 i) fun v => fads p v fun v => .op (.ld1 v) fun v => .op (.call f [v, k]) fun k => .op (.bin 0 .lss k (AV.int .i64 0)) fun v => .ite v (.fin [.val (AV.int .i64 (-1))]) (hBody w x0 i fs k K)
def pHeld (w : Nat) (fs : List (List Nat × MKd)) (x0 x1 : AV) : Prog := .loop [x1, AV.int .i64 0] (fun vs => .op (.len 0 x0) fun v => .op (.bin 0 .lss (g vs 1) v) fun v => .ite v (hBody w x0 (g vs 1) fs (g vs 0) fun k => .op (.bin 0 .add (g vs 1) (AV.int .i64 1)) fun j => .leaf 0 [k, j]) (.leaf 2 [g vs 0, g vs 1])) fun t vs => tsel t 1 (.leaf 1 vs) (tsel t 2 (.fin [.val (g vs 0)]) .bad)

def MText (P : Program) (f : FuncId) : Prop := ∀ (k : Int) (h : AH), 0 ≤ k → k ≤ 1099511627776 → RCalls P f [.int .i64 k] h (.str (mtext k))
/-- The fields' marks fit the fields. -/
def MOk (P : Program) : List (List Nat × MKd) → List FV → Nat → Prop
  | [], [], _ => True
  | (p, .i) :: ss, .i _ :: fs, j => p.sum = j ∧ MOk P ss fs (j + 1)
  | (p, .b) :: ss, .b _ :: fs, j => p.sum = j ∧ MOk P ss fs (j + 1)
  | (p, .s f) :: ss, .s _ :: fs, j => p.sum = j ∧ MText P f ∧ MOk P ss fs (j + 1)
  | (p, .l f) :: ss, .l (β := β) c k xs :: fs, j => p.sum = j ∧ @MarkS β c k P f ∧ MOk P ss fs (j + 1)
  | _, _, _ => False
def HOk (P : Program) : List (List Nat × MKd) → List FV → Nat → Prop
  | [], [], _ => True
  | (p, .i) :: ss, .i _ :: fs, j => p.sum = j ∧ HOk P ss fs (j + 1)
  | (p, .b) :: ss, .b _ :: fs, j => p.sum = j ∧ HOk P ss fs (j + 1)
  | (p, .s f) :: ss, .s _ :: fs, j => p.sum = j ∧ MText P f ∧ HOk P ss fs (j + 1)
  | (p, .l f) :: ss, .l (β := β) c k xs :: fs, j => p.sum = j ∧ @HeldS β c k P f ∧ HOk P ss fs (j + 1)
  | _, _, _ => False

section
variable {P : Program} {h h' : AH} {Q : Nat → List AV → AH → Prop}
theorem aw_fads {K : AV → Prog} : ∀ (p : List Nat) {b o : Nat}, (K (.ptr b (o + p.sum))).awp P h Q → (fads p (.ptr b o) K).awp P h Q
  | [], b, o, hk => by simpa [fads] using hk
  | x :: p, b, o, hk => by
    refine aw_fad (aw_fads p ?_)
    simpa [Nat.add_assoc] using hk

theorem upd_same' {b : Nat} {k : Blk} (e : h.get b = k) : h.upd b k = h := by subst e; exact upd_same
theorem aw_st_g {b es o : Nat} {A R : List AV} {x c v : AV} {k : AV → Prog} (hg : h.get b = ⟨A ++ (c :: R), es, 0⟩) (hx : x.cells? = some [v]) (ho : o = A.length) (hk : (k (.tup [])).awp P (h.upd b ⟨A ++ (v :: R), es, 0⟩) Q) :
    (Prog.op (.st 1 (.ptr b o) x) k).awp P h Q := by
  refine aw_st (by simp [mine, hg]) hx rfl (by rw [hg]; simp; omega) ?_
  have : splice (A ++ (c :: R)) o [v] = A ++ (v :: R) := by
    subst ho; unfold splice
    rw [List.take_left, show A.length + [v].length = (A ++ [c]).length by simp, show A ++ (c :: R) = (A ++ [c]) ++ R by simp, List.drop_left]; simp
  rw [hg]; simp only [this]; exact hk
theorem aw_ld_g {b es o : Nat} {A R : List AV} {c : AV} {k : AV → Prog} (hg : h.get b = ⟨A ++ (c :: R), es, 0⟩) (ho : o = A.length) (hk : (k c).awp P h Q) : (Prog.op (.ld1 (.ptr b o)) k).awp P h Q := by
  subst ho
  exact aw_ld1 (by rw [hg]; simp) (by simp [live, hg]) hk

theorem kp_upd_in {b : Nat} {k : Blk} {X : List Nat} (hb : b ∈ X) : Kp h (h.upd b k) X := ⟨Nat.le_refl _, fun c _ hX => by
  have : c ≠ b := fun e => hX (e ▸ hb)
  simp [this]⟩
theorem Kp.mono {X Y : List Nat} (k : Kp h h' X) (hs : ∀ b ∈ X, b ∈ Y) : Kp h h' Y := ⟨k.1, fun b hb hn => k.2 b hb fun hx => hn (hs b hx)⟩

/-- The fields of one element are marked. -/
theorem mBody_spec {w b off len i : Nat} {K : AV → Prog} (hi : i < len) {n : Nat} : ∀ (fs : List FV) (ss : List (List Nat × MKd)) (j : Nat) (A E R : List AV) (G : List Nat) (m : Int) (h : AH), MOk P ss fs j → UpF fs → h.get b = ⟨A ++ (E ++ R), w, 0⟩ → b < h.n → A.length = off + i * w + j → RepF h fs E G → Own n h G → b ∉ G → 0 ≤ m → (putF m fs).2 ≤ 1099511627776 →
    (∀ h' E', h'.get b = ⟨A ++ (E' ++ R), w, 0⟩ → RepF h' (putF m fs).1 E' G → Own n h' G → Kp h h' (b :: G) → (K (.int .i64 (putF m fs).2)).awp P h' Q) →
    (mBody w (.sl b off len) (.int .i64 i) ss (.int .i64 m) K).awp P h Q := by
  have cellStep : ∀ (fs : List FV) (ss : List (List Nat × MKd)) (j : Nat) (A E R : List AV) (G : List Nat) (m : Int) (h : AH) (c v : AV) (f' : FV) (mk : List FV → List FV),
      h.get b = ⟨A ++ (c :: (E ++ R)), w, 0⟩ → b < h.n → A.length = off + i * w + j → RepF h fs E G → Own n h G → b ∉ G →
      (∀ h', h' = h.upd b ⟨A ++ (v :: (E ++ R)), w, 0⟩ → h'.get b = ⟨(A ++ [v]) ++ (E ++ R), w, 0⟩ ∧ b < h'.n ∧ (A ++ [v]).length = off + i * w + (j + 1) ∧ RepF h' fs E G ∧ Own n h' G ∧ Kp h h' (b :: G)) := by
    intro fs ss j A E R G m h c v f' mk hg hb hA r o hbG h' e
    subst e
    have hk : ∀ x ∈ G, (h.upd b ⟨A ++ (v :: (E ++ R)), w, 0⟩).get x = h.get x := fun x hx => by
      have : x ≠ b := fun e => hbG (e ▸ hx)
      simp [this]
    exact ⟨by simp, by simpa using hb, by simp; omega, r.keep fun x hx => ⟨hk x hx, by simpa using r.lt x hx⟩, o.mono (Nat.le_refl _) hk, kp_upd_in (by simp)⟩
  intro fs
  induction fs with
  | nil =>
    intro ss j A E R G m h hok _ hg hb hA r o hbG h0 h1 hk
    obtain ⟨rfl, rfl⟩ := r
    cases ss with
    | nil => exact hk h [] hg ⟨rfl, rfl⟩ o (Kp.refl _ _)
    | cons s ss => simp only [MOk, HOk] at hok
  | cons f fs ih =>
    intro ss j A E R G m h hok hu hg hb hA r o hbG h0 h1 hk
    cases ss with
    | nil => exact hok.elim
    | cons s ss =>
      obtain ⟨p, s⟩ := s
      cases f with
      | i x =>
        cases s <;> simp only [MOk] at hok
        obtain ⟨rfl, hok⟩ := hok
        obtain ⟨E, rfl, r⟩ := r
        have hup := putF_up fs (m + 1) hu
        simp only [putF] at h1 hk
        obtain ⟨c1, c2, c3, c4, c5, c6⟩ := cellStep fs ss _ A E R G m h _ (.int .i64 m) (.i m) id hg hb hA r o hbG _ rfl
        refine aw_idx_n hi (aw_fads p (aw_st_g hg rfl (by omega) (aw_addn (by omega) (by omega) (ih ss _ _ E R G (m + 1) _ hok hu c1 c2 c3 c4 c5 hbG (by omega) h1 ?_))))
        intro h' E' g1 g2 g3 g4
        exact hk h' (.int .i64 m :: E') (by rw [g1]; simp) ⟨E', rfl, g2⟩ g3 (c6.trans g4)
      | b x =>
        cases s <;> simp only [MOk] at hok
        obtain ⟨rfl, hok⟩ := hok
        obtain ⟨E, rfl, r⟩ := r
        have hup := putF_up fs (m + 1) hu
        simp only [putF] at h1 hk
        obtain ⟨c1, c2, c3, c4, c5, c6⟩ := cellStep fs ss _ A E R G m h _ (.bool (decide (m.tmod 3 = 0))) (.i m) id hg hb hA r o hbG _ rfl
        refine aw_rem (by decide) ?_
        have key : (Prog.op (.idx w (.sl b off len) (.int .i64 i)) fun v => fads p v fun v => .op (.st 1 v (.bool (decide (m.tmod 3 = 0)))) fun _ => .op (.bin 0 .add (.int .i64 m) (.int .i64 1)) fun k => mBody w (.sl b off len) (.int .i64 i) ss k K).awp P h Q := by
          refine aw_idx_n hi (aw_fads p (aw_st_g hg rfl (by omega) (aw_addn (by omega) (by omega) (ih ss _ _ E R G (m + 1) _ hok hu c1 c2 c3 c4 c5 hbG (by omega) h1 ?_))))
          intro h' E' g1 g2 g3 g4
          exact hk h' (.bool (decide (m.tmod 3 = 0)) :: E') (by rw [g1]; simp) ⟨E', rfl, g2⟩ g3 (c6.trans g4)
        refine aw_eql (fun e => ?_) (fun e => ?_)
        · simpa [e] using key
        · simpa [e] using key
      | s x =>
        cases s <;> simp only [MOk] at hok
        obtain ⟨rfl, ht, hok⟩ := hok
        obtain ⟨E, rfl, r⟩ := r
        have hup := putF_up fs (m + 1) hu
        simp only [putF] at h1 hk
        obtain ⟨c1, c2, c3, c4, c5, c6⟩ := cellStep fs ss _ A E R G m h _ (.str (mtext m)) (.i m) id hg hb hA r o hbG _ rfl
        refine aw_rcall (ht m h h0 (by omega)) ?_
        refine aw_idx_n hi (aw_fads p (aw_st_g hg rfl (by omega) (aw_addn (by omega) (by omega) (ih ss _ _ E R G (m + 1) _ hok hu c1 c2 c3 c4 c5 hbG (by omega) h1 ?_))))
        intro h' E' g1 g2 g3 g4
        exact hk h' (.str (mtext m) :: E') (by rw [g1]; simp) ⟨E', rfl, g2⟩ g3 (c6.trans g4)
      | l c k xs =>
        cases s <;> simp only [MOk] at hok
        obtain ⟨rfl, hm, hok⟩ := hok
        obtain ⟨v, E, F1, F2, rfl, rfl, r1, r2⟩ := r
        obtain ⟨hu1, hu2⟩ := hu
        have hup := putF_up fs (mks m xs).2 hu2
        have hup1 := hu1 m
        simp only [putF] at h1 hk
        have hnd := List.nodup_append.1 o.1
        have o1 : Own n h F1 := ⟨hnd.1, fun x hx => o.2 x (List.mem_append_left _ hx)⟩
        have o2 : Own n h F2 := ⟨hnd.2.1, fun x hx => o.2 x (List.mem_append_right _ hx)⟩
        have hb1 : b ∉ F1 := fun hx => hbG (List.mem_append_left _ hx)
        have hb2 : b ∉ F2 := fun hx => hbG (List.mem_append_right _ hx)
        refine aw_idx_n hi (aw_fads p (aw_ld_g hg (by omega) (aw_call (hm xs v F1 n m h r1 o1 h0 (by omega)) ?_)))
        rintro _ h2 ⟨rfl, kp, r1', o1'⟩
        have hd : ∀ x ∈ F2, x ∉ F1 := fun x hx hx' => hnd.2.2 x hx' x hx rfl
        have k2 : ∀ x ∈ F2, h2.get x = h.get x := fun x hx => kp.2 x (r2.lt x hx) (hd x hx)
        have hg2 : h2.get b = ⟨(A ++ [v]) ++ (E ++ R), w, 0⟩ := by rw [kp.2 b hb hb1, hg]; simp
        refine ih ss _ (A ++ [v]) E R F2 (mks m xs).2 h2 hok hu2 hg2 (Nat.lt_of_lt_of_le hb kp.1) (by simp; omega) (r2.keep fun x hx => ⟨k2 x hx, Nat.lt_of_lt_of_le (r2.lt x hx) kp.1⟩) (o2.mono (Nat.le_refl _) k2) hb2 (by omega) h1 ?_
        intro h' E' g1 g2 g3 g4
        have lt1 := r1'.lt
        have k3 : ∀ x ∈ F1, h'.get x = h2.get x := fun x hx => g4.2 x (lt1 x hx) (by
          simp only [List.mem_cons, not_or]
          exact ⟨fun e => hb1 (e ▸ hx), fun hx' => hd x hx' hx⟩)
        refine hk h' (v :: E') (by rw [g1]; simp) ⟨v, E', F1, F2, rfl, rfl, r1'.keep fun x hx => ⟨k3 x hx, Nat.lt_of_lt_of_le (lt1 x hx) g4.1⟩, g2⟩ ?_ ?_
        · have o1'' := o1'.mono (Nat.le_refl _) k3
          exact ⟨List.nodup_append.2 ⟨o1''.1, g3.1, hnd.2.2⟩, fun x hx => by
            rcases List.mem_append.1 hx with hx | hx
            · exact o1''.2 x hx
            · exact g3.2 x hx⟩
        · exact (kp.mono fun x hx => by simp [hx]).trans (g4.mono fun x hx => by
            rcases List.mem_cons.1 hx with e | e
            · simp [e]
            · simp [e])

/-- The fields of one element are looked at. -/
theorem hBody_spec {w b off len i : Nat} {K : AV → Prog} {r0 : AV} (hi : i < len) : ∀ (fs : List FV) (ss : List (List Nat × MKd)) (j : Nat) (E : List AV) (G : List Nat) (m : Int), HOk P ss fs j → UpF fs → At h b (off + i * w + j) E → RepF h (putF m fs).1 E G → 0 ≤ m → (putF m fs).2 ≤ 1099511627776 →
    ((K (.int .i64 (putF m fs).2)).awp P h Q) → (hBody w (.sl b off len) (.int .i64 i) ss (.int .i64 m) K).awp P h Q := by
  intro fs
  induction fs with
  | nil =>
    intro ss j E G m hok _ ha r h0 h1 hk
    cases ss with
    | nil => exact hk
    | cons s ss => simp only [MOk, HOk] at hok
  | cons f fs ih =>
    intro ss j E G m hok hu ha r h0 h1 hk
    cases ss with
    | nil => exact hok.elim
    | cons s ss =>
      obtain ⟨p, s⟩ := s
      cases f with
      | i x =>
        cases s <;> simp only [HOk] at hok
        obtain ⟨rfl, hok⟩ := hok
        have hup := putF_up fs (m + 1) hu
        simp only [putF] at h1 hk r
        obtain ⟨E, rfl, r⟩ := r
        have ha' := ha.drop 1
        refine aw_idx_n hi (aw_fads p (aw_ld1 (by simpa using ha.get (j := 0) rfl) ha.2.1 (aw_neq (fun hne => absurd rfl hne) fun _ => aw_ite_f (aw_addn (by omega) (by omega) (ih ss _ E G (m + 1) hok hu ?_ r (by omega) h1 hk)))))
        simpa [Nat.add_assoc] using ha'
      | b x =>
        cases s <;> simp only [HOk] at hok
        obtain ⟨rfl, hok⟩ := hok
        have hup := putF_up fs (m + 1) hu
        simp only [putF] at h1 hk r
        obtain ⟨E, rfl, r⟩ := r
        have ha' := ha.drop 1
        refine aw_idx_n hi (aw_fads p (aw_ld1 (by simpa using ha.get (j := 0) rfl) ha.2.1 (aw_rem (by decide) (aw_eql (fun e => aw_bneq ?_) (fun e => aw_bneq ?_)))))
        · simp only [e, decide_true, BEq.rfl, Bool.not_true]
          refine aw_ite_f (aw_addn (by omega) (by omega) (ih ss _ E G (m + 1) hok hu ?_ r (by omega) h1 hk))
          simpa [Nat.add_assoc] using ha'
        · simp only [e, decide_false, BEq.rfl, Bool.not_true]
          refine aw_ite_f (aw_addn (by omega) (by omega) (ih ss _ E G (m + 1) hok hu ?_ r (by omega) h1 hk))
          simpa [Nat.add_assoc] using ha'
      | s x =>
        cases s <;> simp only [HOk] at hok
        obtain ⟨rfl, ht, hok⟩ := hok
        have hup := putF_up fs (m + 1) hu
        simp only [putF] at h1 hk r
        obtain ⟨E, rfl, r⟩ := r
        have ha' := ha.drop 1
        refine aw_idx_n hi (aw_fads p (aw_ld1 (by simpa using ha.get (j := 0) rfl) ha.2.1 (aw_rcall (ht m h h0 (by omega)) (aw_chk_ld1 ha (Ext.refl _) rfl (aw_sneq (fun hne => absurd rfl hne) fun _ => aw_ite_f (aw_addn (by omega) (by omega) (ih ss _ E G (m + 1) hok hu ?_ r (by omega) h1 hk)))))))
        simpa [Nat.add_assoc] using ha'
      | l c k xs =>
        cases s <;> simp only [HOk] at hok
        obtain ⟨rfl, hm, hok⟩ := hok
        obtain ⟨hu1, hu2⟩ := hu
        have hup := putF_up fs (mks m xs).2 hu2
        have hup1 := hu1 m
        simp only [putF] at h1 hk r
        obtain ⟨v, E, F1, F2, rfl, rfl, r1, r2⟩ := r
        have ha' := ha.drop 1
        refine aw_idx_n hi (aw_fads p (aw_ld1 (by simpa using ha.get (j := 0) rfl) ha.2.1 (aw_rcall (hm xs v F1 m h r1 h0 (by omega)) (aw_lss (fun hl => by omega) fun _ => aw_ite_f (ih ss _ E F2 (mks m xs).2 hok hu2 ?_ r2 (by omega) h1 hk)))))
        simpa [Nat.add_assoc] using ha'
end
theorem mks_app {α : Type} [Mk α] : ∀ (l r : List α) (m : Int), (mks m (l ++ r)).2 = (mks (mks m l).2 r).2
  | [], r, m => rfl
  | x :: l, r, m => by simp only [List.cons_append, mks, mks_app l]
section
variable {α : Type} [Cel α] [Mk α] [Fld α]
theorem put_up (m : Int) (x : α) : m ≤ (Mk.put m x).2 := by rw [(Fld.put m x).2]; exact putF_up _ _ (Fld.ups x)
theorem mks_upF : ∀ (xs : List α) (m : Int), m ≤ (mks m xs).2
  | [], m => by simp [mks]
  | x :: xs, m => by
    have := put_up m x
    have := mks_upF xs (Mk.put m x).2
    simp only [mks]; omega
theorem mks_take_le (xs : List α) (m : Int) (i : Nat) : (mks m (xs.take i)).2 ≤ (mks m xs).2 := by
  conv => rhs; rw [← List.take_append_drop i xs, mks_app]
  exact mks_upF _ _
end

section
variable {α : Type} [Cel α] {P : Program} {h : AH}
theorem Reps.split : ∀ {xs : List α} {cs : List AV} {F : List Nat} (_ : Reps h xs cs F) {i : Nat} {x : α}, xs[i]? = some x → ∃ c1 ci c2 G1 Fi G2, cs = c1 ++ (ci ++ c2) ∧ F = G1 ++ (Fi ++ G2) ∧ Reps h (xs.take i) c1 G1 ∧ Cel.rep h x ci Fi ∧ Reps h (xs.drop (i + 1)) c2 G2
  | [], cs, F, r, i, x, hx => by simp at hx
  | y :: xs, cs, F, r, 0, x, hx => by
    simp at hx; subst hx
    obtain ⟨c1, c2, F1, F2, rfl, rfl, r1, r2⟩ := r
    exact ⟨[], c1, c2, [], F1, F2, rfl, rfl, ⟨rfl, rfl⟩, r1, r2⟩
  | y :: xs, cs, F, r, i + 1, x, hx => by
    simp at hx
    obtain ⟨c1, c2, F1, F2, rfl, rfl, r1, r2⟩ := r
    obtain ⟨d1, di, d2, G1, Fi, G2, rfl, rfl, q1, q2, q3⟩ := r2.split hx
    exact ⟨c1 ++ d1, di, d2, F1 ++ G1, Fi, G2, by simp, by simp, ⟨c1, d1, F1, G1, rfl, rfl, r1, q1⟩, q2, q3⟩

/-- One element, taken out and put back. -/
theorem SlRep.focus {n : Nat} {v : AV} {ys : List α} {F : List Nat} (r : SlRep h v ys F) (o : Own n h F) {i : Nat} {x : α} (hx : ys[i]? = some x) : ∃ b off A cs R G1 Fi G2, v = .sl b off ys.length ∧ F = b :: (G1 ++ (Fi ++ G2)) ∧ h.get b = ⟨A ++ (cs ++ R), Cel.w α, 0⟩ ∧ b < h.n ∧ A.length = off + i * Cel.w α ∧ Cel.rep h x cs Fi ∧ Own n h Fi ∧ b ∉ Fi ∧
    ∀ h' x' cs', Cel.rep h' x' cs' Fi → h'.get b = ⟨A ++ (cs' ++ R), Cel.w α, 0⟩ → Kp h h' (b :: Fi) → Own n h' Fi → SlRep h' v (ys.set i x') F ∧ Own n h' F := by
  have hi : i < ys.length := (List.getElem?_eq_some_iff.1 hx).1
  rcases r with ⟨rfl, h1, rfl⟩ | ⟨b, off, F', cs0, rfl, rfl, h1, h2, h3, h4, h5, h6, h7⟩
  · omega
  obtain ⟨c1, ci, c2, G1, Fi, G2, rfl, rfl, q1, q2, q3⟩ := h7.split hx
  have hst : (h.get b).st = 0 := (o.2 b (by simp)).2
  have hl1 := q1.length
  rw [List.length_take, Nat.min_eq_left (by omega)] at hl1
  have hli := Cel.len q2
  have hl7 := h7.length
  have hcl : (h.get b).cells = ((h.get b).cells.take off ++ c1) ++ (ci ++ (c2 ++ (h.get b).cells.drop (off + ys.length * Cel.w α))) := by
    have e1 : (h.get b).cells = (h.get b).cells.take off ++ (h.get b).cells.drop off := (List.take_append_drop _ _).symm
    have e2 : (h.get b).cells.drop off = ((h.get b).cells.drop off).take (ys.length * Cel.w α) ++ (h.get b).cells.drop (off + ys.length * Cel.w α) := by
      rw [← List.drop_drop, List.take_append_drop]
    rw [← h6] at e2
    conv => lhs; rw [e1, e2]
    simp only [List.append_assoc]
  have hoff : ((h.get b).cells.take off).length = off := by simp; omega
  have hnd := o.1
  rw [List.nodup_cons, List.nodup_append, List.nodup_append] at hnd
  obtain ⟨nb, n1, ⟨n2, n3, n4⟩, n5⟩ := hnd
  simp only [List.mem_append, not_or] at nb
  have oFi : Own n h Fi := ⟨n2, fun c hc => o.2 c (by simp [hc])⟩
  refine ⟨b, off, (h.get b).cells.take off ++ c1, ci, c2 ++ (h.get b).cells.drop (off + ys.length * Cel.w α), G1, Fi, G2, rfl, rfl, ?_, h1, by rw [List.length_append, hoff, hl1], q2, oFi, nb.2.1, ?_⟩
  · have e : h.get b = ⟨(h.get b).cells, (h.get b).es, (h.get b).st⟩ := rfl
    rw [e, h3, hst]; congr 1
  · intro h' x' cs' r' hg kp o'
    have lt := h7.lt
    have keep1 : ∀ c ∈ G1, h'.get c = h.get c ∧ c < h'.n := fun c hc => ⟨kp.2 c (lt c (by simp [hc])) (by
      simp only [List.mem_cons, not_or]
      exact ⟨fun e => nb.1 (e ▸ hc), fun hc' => n5 c hc c (by simp [hc']) rfl⟩), Nat.lt_of_lt_of_le (lt c (by simp [hc])) kp.1⟩
    have keep2 : ∀ c ∈ G2, h'.get c = h.get c ∧ c < h'.n := fun c hc => ⟨kp.2 c (lt c (by simp [hc])) (by
      simp only [List.mem_cons, not_or]
      exact ⟨fun e => nb.2.2 (e ▸ hc), fun hc' => n4 c hc' c hc rfl⟩), Nat.lt_of_lt_of_le (lt c (by simp [hc])) kp.1⟩
    have hs : ys.set i x' = ys.take i ++ ([x'] ++ ys.drop (i + 1)) := by
      rw [List.set_eq_take_append_cons_drop, if_pos hi]; simp
    have R1 : Reps h' (ys.set i x') (c1 ++ (cs' ++ c2)) (G1 ++ (Fi ++ G2)) := by
      rw [hs]
      exact (q1.keep keep1).append ((reps_one r').append (q3.keep keep2))
    have hli' := Cel.len r'
    have hR := R1.length
    rw [List.length_set] at hR
    refine ⟨.inr ⟨b, off, _, _, by rw [List.length_set], rfl, Nat.lt_of_lt_of_le h1 kp.1, by simp [live, hg], by simp [hg], ?_, by rw [List.length_set]; exact h5, ?_, R1⟩, ?_⟩
    · rw [hg, List.length_set]
      have := congrArg List.length hcl
      simp only [List.length_append, hoff, hli, hli', hl1] at this hR ⊢
      omega
    · rw [hg, List.length_set]
      have e : ((h.get b).cells.take off ++ c1) ++ (cs' ++ (c2 ++ (h.get b).cells.drop (off + ys.length * Cel.w α))) = (h.get b).cells.take off ++ ((c1 ++ (cs' ++ c2)) ++ (h.get b).cells.drop (off + ys.length * Cel.w α)) := by simp only [List.append_assoc]
      simp only [e]
      rw [List.drop_append_of_le_length (by omega), List.drop_of_length_le (by omega), List.nil_append, ← hR, List.take_left]
    · refine ⟨o.1, fun c hc => ?_⟩
      have := o.2 c hc
      refine ⟨this.1, ?_⟩
      rcases List.mem_cons.1 hc with e | hc
      · subst e; rw [hg]
      · rcases List.mem_append.1 hc with hc | hc
        · rw [(keep1 c hc).1]; exact this.2
        · rcases List.mem_append.1 hc with hc | hc
          · exact (o'.2 c hc).2
          · rw [(keep2 c hc).1]; exact this.2
end

section
variable {α : Type} [Cel α] [Mk α] [Fld α] {P : Program} {h : AH}
theorem pMark_spec {w : Nat} (hw : w = Cel.w α) {ss : List (List Nat × MKd)} (hok : ∀ x : α, MOk P ss (Fld.f x) 0) {xs : List α} {v : AV} {F : List Nat} {n : Nat} {m : Int} (r : SlRep h v xs F) (o : Own n h F) (h0 : 0 ≤ m) (h1 : (mks m xs).2 ≤ 1099511627776) :
    (pMark w ss v (.int .i64 m)).awp P h fun t vs h' => t = 1 ∧ ∃ u, vs = [u] ∧ u = .int .i64 (mks m xs).2 ∧ Kp h h' F ∧ SlRep h' v (mks m xs).1 F ∧ Own n h' F := by
  subst hw
  unfold pMark
  have hsm := r.small
  refine aw_upto xs.length (fun i vs h2 => vs = [.int .i64 (mks m (xs.take i)).2, .int .i64 (i : Int)] ∧ i ≤ xs.length ∧ Kp h h2 F ∧ SlRep h2 v ((mks m (xs.take i)).1 ++ xs.drop i) F ∧ Own n h2 F) ⟨by simp [mks], Nat.zero_le _, Kp.refl _ _, by simpa [mks] using r, o⟩ ?_
  rintro i vs h2 _ ⟨rfl, hi, kp, r2, o2⟩
  have hlen : ((mks m (xs.take i)).1 ++ xs.drop i).length = xs.length := by rw [List.length_append, mks_len]; simp; omega
  refine aw_len r2 ?_
  rw [hlen]
  simp only [g0, g1]
  refine aw_lss (fun hlt => aw_ite_t ?_) (fun hge => aw_ite_f ?_)
  · obtain ⟨x, hx, hd, htk⟩ := drop_step (show i < xs.length by omega)
    have hml : (mks m (xs.take i)).1.length = i := by rw [mks_len]; simp; omega
    have hy : ((mks m (xs.take i)).1 ++ xs.drop i)[i]? = some x := by
      rw [List.getElem?_append_right (by omega), hml, Nat.sub_self, hd]; rfl
    obtain ⟨b, off, A, cs, R, G1, Fi, G2, rfl, rfl, hg, hb, hA, rx, oi, nb, back⟩ := r2.focus o2 hy
    have hn : (mks m (xs.take (i + 1))).2 = (putF (mks m (xs.take i)).2 (Fld.f x)).2 := by rw [htk, mks_snoc]; exact (Fld.put _ x).2
    have hm0 := mks_upF (xs.take i) m
    have hle := mks_take_le xs m (i + 1)
    rw [hlen]
    refine mBody_spec (show i < xs.length by omega) (n := n) (Fld.f x) ss 0 A cs R Fi _ h2 (hok x) (Fld.ups x) hg hb (by simpa using hA) ((Fld.rep _ _ _ _).1 rx) oi nb (by omega) (by omega) ?_
    intro h' E' g1' g2' g3' g4'
    have rx' : Cel.rep h' (Mk.put (mks m (xs.take i)).2 x).1 E' Fi := (Fld.rep _ _ _ _).2 (by rw [(Fld.put _ x).1]; exact g2')
    obtain ⟨q1, q2⟩ := back h' _ E' rx' g1' g4' g3'
    refine aw_inc (by omega) (aw_leaf (aw_nexts ?_))
    refine ⟨by omega, by rw [hn], by omega, kp.trans (g4'.mono fun c hc => by
      rcases List.mem_cons.1 hc with e | e
      · simp [e]
      · simp [e]), ?_, q2⟩
    have : (((mks m (xs.take i)).1 ++ xs.drop i).set i (Mk.put (mks m (xs.take i)).2 x).1) = (mks m (xs.take (i + 1))).1 ++ xs.drop (i + 1) := by
      rw [List.set_append_right _ _ (by omega), hml, Nat.sub_self, hd, htk, mks_snoc]; simp
    rw [this, hlen] at q1
    exact q1
  · have : i = xs.length := by omega
    subst this
    refine aw_leaf (aw_ends (by decide) (aw_tsel_ne (by decide) (aw_tsel_eq (aw_fin1 ⟨rfl, _, rfl, ?_, kp, ?_, o2⟩))))
    · simp only [g0, List.take_length]
    · simpa using r2

theorem pHeld_spec {w : Nat} (hw : w = Cel.w α) {ss : List (List Nat × MKd)} (hok : ∀ x : α, HOk P ss (Fld.f x) 0) {xs : List α} {v : AV} {F : List Nat} {m : Int} (r : SlRep h v (mks m xs).1 F) (h0 : 0 ≤ m) (h1 : (mks m xs).2 ≤ 1099511627776) :
    (pHeld w ss v (.int .i64 m)).awp P h (Post (.int .i64 (mks m xs).2) h) := by
  subst hw
  unfold pHeld
  have hsm := r.small
  rw [mks_len] at hsm
  refine aw_upto xs.length (fun i vs h2 => vs = [.int .i64 (mks m (xs.take i)).2, .int .i64 (i : Int)] ∧ i ≤ xs.length ∧ h2 = h) ⟨by simp [mks], Nat.zero_le _, rfl⟩ ?_
  rintro i vs h2 _ ⟨rfl, hi, rfl⟩
  refine aw_len r ?_
  rw [mks_len]
  simp only [g0, g1]
  refine aw_lss (fun hlt => aw_ite_t ?_) (fun hge => aw_ite_f ?_)
  · obtain ⟨x, hx, hd, htk⟩ := drop_step (show i < xs.length by omega)
    have hy : (mks m xs).1[i]? = some (Mk.put (mks m (xs.take i)).2 x).1 := by
      have : xs = xs.take i ++ x :: xs.drop (i + 1) := by rw [← hd, List.take_append_drop]
      have hl : (mks m (xs.take i)).1.length = i := by rw [mks_len]; simp; omega
      have ha : (mks m xs).1 = (mks m (xs.take i)).1 ++ (mks (mks m (xs.take i)).2 (x :: xs.drop (i + 1))).1 := by
        have gen : ∀ (l r : List α) (m : Int), (mks m (l ++ r)).1 = (mks m l).1 ++ (mks (mks m l).2 r).1 := by
          intro l
          induction l with
          | nil => intro r m; rfl
          | cons y l ih => intro r m; simp only [List.cons_append, mks, ih]
        conv => lhs; rw [this]
        rw [gen]
      rw [ha, List.getElem?_append_right (by omega), hl, Nat.sub_self]
      simp [mks]
    obtain ⟨b, off, cs, Fi, rfl, ha, rx, _⟩ := r.elem hy
    have hn : (mks m (xs.take (i + 1))).2 = (putF (mks m (xs.take i)).2 (Fld.f x)).2 := by rw [htk, mks_snoc]; exact (Fld.put _ x).2
    have hm0 := mks_upF (xs.take i) m
    have hle := mks_take_le xs m (i + 1)
    have rx' := (Fld.rep _ _ _ _).1 rx
    rw [(Fld.put _ x).1] at rx'
    refine hBody_spec (by rw [mks_len]; omega) (r0 := .un) (Fld.f x) ss 0 cs Fi _ (hok x) (Fld.ups x) (by simpa using ha) rx' (by omega) (by omega) ?_
    exact aw_inc (by omega) (aw_leaf (aw_nexts ⟨by omega, by rw [hn], by omega, rfl⟩))
  · have : i = xs.length := by omega
    subst this
    refine aw_leaf (aw_ends (by decide) (aw_tsel_ne (by decide) (aw_tsel_eq (aw_fin1 ⟨rfl, ?_, Ext.refl _⟩))))
    simp only [g0, List.take_length]
end
end Go.Ab
