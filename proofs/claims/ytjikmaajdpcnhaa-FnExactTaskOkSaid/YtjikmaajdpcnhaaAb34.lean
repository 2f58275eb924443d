/- The values of the program: their sizes, and marks on them. Written by mkty.py. -/
import Derived.Test.YtjikmaajdpcnhaaAb33
set_option linter.unusedSimpArgs false
set_option linter.unusedVariables false
namespace Go.Ab
open Go.RowKit

/-- No value takes more than thirty-two marks, and thirty-two more for each element or byte. -/
class Cnt (α : Type) [Mk α] [Sz α] : Prop where
  cnt : ∀ (m : Int) (x : α), (Mk.put m x).2 ≤ m + 32 * (1 + ((Sz.sz x : Nat) : Int))
theorem mks_cnt32 {α : Type} [Mk α] [Sz α] [Cnt α] : ∀ (xs : List α) (m : Int), (mks m xs).2 ≤ m + 32 * ((xs.length + szs xs : Nat) : Int)
  | [], m => by simp [mks, szs]
  | x :: xs, m => by
    have := Cnt.cnt m x
    have := mks_cnt32 xs (Mk.put m x).2
    simp only [mks, szs, List.length_cons]; omega

instance : Sz Int := ⟨fun _ => 0⟩
instance : Mk Int := ⟨fun m _ => (m, m + 1)⟩
instance : Flat Int where
  toCel := inferInstance
  enc := fun x => [.int .i64 x]
  rep_iff := Iff.rfl
instance : Fld Int where
  f := fun x => [.i x]
  rep := by
    intro h x cs F
    constructor
    · rintro ⟨rfl, rfl⟩; exact ⟨_, rfl, rfl, rfl⟩
    · rintro ⟨_, rfl, rfl, rfl⟩; exact ⟨rfl, rfl⟩
  put := fun m x => ⟨rfl, rfl⟩
  ups := fun x => trivial
instance : Cnt Int := ⟨fun m x => by show m + 1 ≤ _; simp only [Sz.sz]; omega⟩
instance : Flat Verdict where
  toCel := inferInstance
  enc := Verdict.cs
  rep_iff := Iff.rfl
instance {α : Type} [Sz α] : Sz (List α) := ⟨fun xs => xs.length + szs xs⟩
instance {α : Type} [Mk α] : Mk (List α) := ⟨fun m xs => mks m xs⟩
instance {α : Type} [Cel α] [Mk α] [Fld α] : Fld (List α) where
  f := fun x => [.l inferInstance inferInstance x]
  rep := by
    intro h x cs F
    constructor
    · rintro ⟨v, rfl, r⟩; exact ⟨v, _, F, [], rfl, by simp, r, rfl, rfl⟩
    · rintro ⟨v, _, F1, F2, rfl, rfl, r, rfl, rfl⟩; exact ⟨v, rfl, by simpa using r⟩
  put := fun m x => ⟨rfl, rfl⟩
  ups := fun x => ⟨fun m => mks_upF _ m, trivial⟩
instance {α : Type} [Mk α] [Sz α] [Cnt α] : Cnt (List α) := ⟨fun m x => by
  have := mks_cnt32 x m
  show (mks m x).2 ≤ m + 32 * (1 + ((x.length + szs x : Nat) : Int))
  omega⟩

/-! ### Rules -/
mutual
def Pol.szP : Pol → Nat
  | .mk _ _ s t l => s.size + t.size + (l.length + Pol.szsP l)
def Pol.szsP : List Pol → Nat
  | [] => 0
  | p :: ps => Pol.szP p + Pol.szsP ps
end
instance : Sz Pol := ⟨Pol.szP⟩
theorem Pol.szs_eq : ∀ (l : List Pol), szs l = Pol.szsP l
  | [] => rfl
  | p :: ps => by simp only [szs, Pol.szsP, Pol.szs_eq ps]; rfl
theorem Pol.sz_eq (x : Pol) : Sz.sz x = x.key.size + x.text.size + (x.l.length + szs x.l) := by
  cases x with
  | mk k n s t l => rw [Pol.szs_eq]; rfl
mutual
def Pol.putP : Int → Pol → Pol × Int
  | m, .mk _ _ _ _ l => (.mk m (m + 1) (mtext (m + 1 + 1)) (mtext (m + 1 + 1 + 1)) (Pol.putsP (m + 1 + 1 + 1 + 1) l).1, (Pol.putsP (m + 1 + 1 + 1 + 1) l).2)
def Pol.putsP : Int → List Pol → List Pol × Int
  | m, [] => ([], m)
  | m, p :: ps => ((Pol.putP m p).1 :: (Pol.putsP (Pol.putP m p).2 ps).1, (Pol.putsP (Pol.putP m p).2 ps).2)
end
instance : Mk Pol := ⟨Pol.putP⟩
theorem Pol.mks_eq : ∀ (l : List Pol) (m : Int), mks m l = Pol.putsP m l
  | [], m => rfl
  | p :: ps, m => by simp only [mks, Pol.putsP, Pol.mks_eq ps]; rfl
mutual
theorem Pol.up_ : ∀ (x : Pol) (m : Int), m ≤ (Pol.putP m x).2
  | .mk k n s t l, m => by have := Pol.ups_ l (m + 1 + 1 + 1 + 1); simp only [Pol.putP]; omega
theorem Pol.ups_ : ∀ (x : List Pol) (m : Int), m ≤ (Pol.putsP m x).2
  | [], m => by simp [Pol.putsP]
  | p :: ps, m => by have := Pol.up_ p m; have := Pol.ups_ ps (Pol.putP m p).2; simp only [Pol.putsP]; omega
end
instance : Fld Pol where
  f := fun x => [.i x.kind, .i x.n, .s x.key, .s x.text, .l inferInstance inferInstance x.l]
  rep := by
    intro h x cs F
    rw [Pol.rep_iff]
    constructor
    · rintro ⟨v0, rfl, r0⟩; exact ⟨_, rfl, _, rfl, _, rfl, _, rfl, v0, _, F, [], rfl, by simp, r0, rfl, rfl⟩
    · rintro ⟨_, rfl, _, rfl, _, rfl, _, rfl, v0, _, F0, _, rfl, rfl, r0, rfl, rfl⟩; exact ⟨v0, rfl, by simpa using r0⟩
  put := fun m x => by
    cases x with
    | mk k n s t l => simp only [putF, Pol.l, Pol.mks_eq]; exact ⟨rfl, rfl⟩
  ups := fun x => ⟨fun m => by rw [Pol.mks_eq]; exact Pol.ups_ _ _, trivial⟩
mutual
theorem Pol.cnt_ : ∀ (x : Pol) (m : Int), (Pol.putP m x).2 ≤ m + 32 * (1 + ((Pol.szP x : Nat) : Int))
  | .mk k n s t l, m => by have := Pol.cnts_ l (m + 1 + 1 + 1 + 1); simp only [Pol.putP, Pol.szP]; omega
theorem Pol.cnts_ : ∀ (x : List Pol) (m : Int), (Pol.putsP m x).2 ≤ m + 32 * ((x.length + Pol.szsP x : Nat) : Int)
  | [], m => by simp [Pol.putsP, Pol.szsP]
  | p :: ps, m => by have := Pol.cnt_ p m; have := Pol.cnts_ ps (Pol.putP m p).2; simp only [Pol.putsP, Pol.szsP, List.length_cons]; omega
end
instance : Cnt Pol := ⟨fun m x => Pol.cnt_ x m⟩

/-! ### Verdict -/
instance : Sz Verdict := ⟨fun x => 0⟩
instance : Mk Verdict := ⟨fun m x => (⟨m, m + 1, decide ((m + 1 + 1).tmod 3 = 0)⟩, m + 1 + 1 + 1)⟩
instance : Fld Verdict where
  f := fun x => [.i x.trace, .i x.stamp, .b x.keep]
  rep := by
    intro h x cs F
    constructor
    · rintro ⟨rfl, rfl⟩; exact ⟨_, rfl, ⟨_, rfl, ⟨_, rfl, ⟨rfl, rfl⟩⟩⟩⟩
    · rintro ⟨_, rfl, ⟨_, rfl, ⟨_, rfl, ⟨rfl, rfl⟩⟩⟩⟩; exact ⟨rfl, rfl⟩
  put := fun m x => ⟨rfl, rfl⟩
  ups := fun x => trivial
instance : Cnt Verdict := ⟨fun m x => by
  show m + 1 + 1 + 1 ≤ m + 32 * (1 + ((0 : Nat) : Int))
  omega⟩

/-! ### Attr -/
instance : Sz Attr := ⟨fun x => x.key.size + x.text.size⟩
instance : Mk Attr := ⟨fun m x => (⟨mtext (m), decide ((m + 1).tmod 3 = 0), m + 1 + 1, mtext (m + 1 + 1 + 1)⟩, m + 1 + 1 + 1 + 1)⟩
instance : Fld Attr where
  f := fun x => [.s x.key, .b x.num, .i x.n, .s x.text]
  rep := by
    intro h x cs F
    constructor
    · rintro ⟨rfl, rfl⟩; exact ⟨_, rfl, ⟨_, rfl, ⟨_, rfl, ⟨_, rfl, ⟨rfl, rfl⟩⟩⟩⟩⟩
    · rintro ⟨_, rfl, ⟨_, rfl, ⟨_, rfl, ⟨_, rfl, ⟨rfl, rfl⟩⟩⟩⟩⟩; exact ⟨rfl, rfl⟩
  put := fun m x => ⟨rfl, rfl⟩
  ups := fun x => trivial
instance : Cnt Attr := ⟨fun m x => by
  show m + 1 + 1 + 1 + 1 ≤ m + 32 * (1 + ((x.key.size + x.text.size : Nat) : Int))
  omega⟩

/-! ### Span -/
instance : Sz Span := ⟨fun x => (x.attrs.length + szs x.attrs)⟩
instance : Mk Span := ⟨fun m x => (⟨m, m + 1, m + 1 + 1, m + 1 + 1 + 1, decide ((m + 1 + 1 + 1 + 1).tmod 3 = 0), (mks (m + 1 + 1 + 1 + 1 + 1) x.attrs).1⟩, (mks (m + 1 + 1 + 1 + 1 + 1) x.attrs).2)⟩
instance : Fld Span where
  f := fun x => [.i x.trace, .i x.id, .i x.start, .i x.fin, .b x.err, .l inferInstance inferInstance x.attrs]
  rep := by
    intro h x cs F
    constructor
    · rintro ⟨v0, rfl, r0⟩; exact ⟨_, rfl, ⟨_, rfl, ⟨_, rfl, ⟨_, rfl, ⟨_, rfl, ⟨v0, _, F, [], rfl, by simp, r0, ⟨rfl, rfl⟩⟩⟩⟩⟩⟩⟩
    · rintro ⟨_, rfl, ⟨_, rfl, ⟨_, rfl, ⟨_, rfl, ⟨_, rfl, ⟨v0, _, F0, _, rfl, rfl, r0, ⟨rfl, rfl⟩⟩⟩⟩⟩⟩⟩; exact ⟨v0, rfl, by simpa using r0⟩
  put := fun m x => ⟨rfl, rfl⟩
  ups := fun x => ⟨fun m => mks_upF _ m, trivial⟩
instance : Cnt Span := ⟨fun m x => by
  show (mks (m + 1 + 1 + 1 + 1 + 1) x.attrs).2 ≤ m + 32 * (1 + (((x.attrs.length + szs x.attrs) : Nat) : Int))
  have := mks_cnt32 x.attrs (m + 1 + 1 + 1 + 1 + 1)
  omega⟩

/-! ### Timer -/
instance : Sz Timer := ⟨fun x => 0⟩
instance : Mk Timer := ⟨fun m x => (⟨m, m + 1, m + 1 + 1⟩, m + 1 + 1 + 1)⟩
instance : Fld Timer where
  f := fun x => [.i x.id, .i x.trace, .i x.at_]
  rep := by
    intro h x cs F
    constructor
    · rintro ⟨rfl, rfl⟩; exact ⟨_, rfl, ⟨_, rfl, ⟨_, rfl, ⟨rfl, rfl⟩⟩⟩⟩
    · rintro ⟨_, rfl, ⟨_, rfl, ⟨_, rfl, ⟨rfl, rfl⟩⟩⟩⟩; exact ⟨rfl, rfl⟩
  put := fun m x => ⟨rfl, rfl⟩
  ups := fun x => trivial
instance : Cnt Timer := ⟨fun m x => by
  show m + 1 + 1 + 1 ≤ m + 32 * (1 + ((0 : Nat) : Int))
  omega⟩

/-! ### Trail -/
instance : Sz Trail := ⟨fun x => (x.spans.length + szs x.spans)⟩
instance : Mk Trail := ⟨fun m x => (⟨m, m + 1, m + 1 + 1, (mks (m + 1 + 1 + 1) x.spans).1⟩, (mks (m + 1 + 1 + 1) x.spans).2)⟩
instance : Fld Trail where
  f := fun x => [.i x.id, .i x.stamp, .i x.first, .l inferInstance inferInstance x.spans]
  rep := by
    intro h x cs F
    constructor
    · rintro ⟨v0, rfl, r0⟩; exact ⟨_, rfl, ⟨_, rfl, ⟨_, rfl, ⟨v0, _, F, [], rfl, by simp, r0, ⟨rfl, rfl⟩⟩⟩⟩⟩
    · rintro ⟨_, rfl, ⟨_, rfl, ⟨_, rfl, ⟨v0, _, F0, _, rfl, rfl, r0, ⟨rfl, rfl⟩⟩⟩⟩⟩; exact ⟨v0, rfl, by simpa using r0⟩
  put := fun m x => ⟨rfl, rfl⟩
  ups := fun x => ⟨fun m => mks_upF _ m, trivial⟩
instance : Cnt Trail := ⟨fun m x => by
  show (mks (m + 1 + 1 + 1) x.spans).2 ≤ m + 32 * (1 + (((x.spans.length + szs x.spans) : Nat) : Int))
  have := mks_cnt32 x.spans (m + 1 + 1 + 1)
  omega⟩

/-! ### Stripe -/
instance : Sz Stripe := ⟨fun x => (x.l.length + szs x.l)⟩
instance : Mk Stripe := ⟨fun m x => (⟨m, (mks (m + 1) x.l).1⟩, (mks (m + 1) x.l).2)⟩
instance : Fld Stripe where
  f := fun x => [.i x.held, .l inferInstance inferInstance x.l]
  rep := by
    intro h x cs F
    constructor
    · rintro ⟨v0, rfl, r0⟩; exact ⟨_, rfl, ⟨v0, _, F, [], rfl, by simp, r0, ⟨rfl, rfl⟩⟩⟩
    · rintro ⟨_, rfl, ⟨v0, _, F0, _, rfl, rfl, r0, ⟨rfl, rfl⟩⟩⟩; exact ⟨v0, rfl, by simpa using r0⟩
  put := fun m x => ⟨rfl, rfl⟩
  ups := fun x => ⟨fun m => mks_upF _ m, trivial⟩
instance : Cnt Stripe := ⟨fun m x => by
  show (mks (m + 1) x.l).2 ≤ m + 32 * (1 + (((x.l.length + szs x.l) : Nat) : Int))
  have := mks_cnt32 x.l (m + 1)
  omega⟩

/-! ### Itm -/
instance : Sz Itm := ⟨fun x => Sz.sz x.s⟩
instance : Mk Itm := ⟨fun m x => (⟨m, ⟨m + 1, m + 1 + 1, m + 1 + 1 + 1, m + 1 + 1 + 1 + 1, decide ((m + 1 + 1 + 1 + 1 + 1).tmod 3 = 0), (mks (m + 1 + 1 + 1 + 1 + 1 + 1) x.s.attrs).1⟩⟩, (mks (m + 1 + 1 + 1 + 1 + 1 + 1) x.s.attrs).2)⟩
instance : Fld Itm where
  f := fun x => [.i x.stamp, .i x.s.trace, .i x.s.id, .i x.s.start, .i x.s.fin, .b x.s.err, .l inferInstance inferInstance x.s.attrs]
  rep := by
    intro h x cs F
    constructor
    · rintro ⟨v0, rfl, r0⟩; exact ⟨_, rfl, ⟨_, rfl, ⟨_, rfl, ⟨_, rfl, ⟨_, rfl, ⟨_, rfl, ⟨v0, _, F, [], rfl, by simp, r0, ⟨rfl, rfl⟩⟩⟩⟩⟩⟩⟩⟩
    · rintro ⟨_, rfl, ⟨_, rfl, ⟨_, rfl, ⟨_, rfl, ⟨_, rfl, ⟨_, rfl, ⟨v0, _, F0, _, rfl, rfl, r0, ⟨rfl, rfl⟩⟩⟩⟩⟩⟩⟩⟩; exact ⟨v0, rfl, by simpa using r0⟩
  put := fun m x => ⟨rfl, rfl⟩
  ups := fun x => ⟨fun m => mks_upF _ m, trivial⟩
instance : Cnt Itm := ⟨fun m x => by
  show (mks (m + 1 + 1 + 1 + 1 + 1 + 1) x.s.attrs).2 ≤ m + 32 * (1 + ((Sz.sz x.s : Nat) : Int))
  have := mks_cnt32 x.s.attrs (m + 1 + 1 + 1 + 1 + 1 + 1)
  have e_s : Sz.sz x.s = (x.s.attrs.length + szs x.s.attrs) := rfl
  omega⟩

/-! ### Task -/
instance : Sz Task := ⟨fun x => Sz.sz x.s + (x.hand.length + szs x.hand)⟩
instance : Mk Task := ⟨fun m x => (⟨m, m + 1, ⟨m + 1 + 1, m + 1 + 1 + 1, m + 1 + 1 + 1 + 1, m + 1 + 1 + 1 + 1 + 1, decide ((m + 1 + 1 + 1 + 1 + 1 + 1).tmod 3 = 0), (mks (m + 1 + 1 + 1 + 1 + 1 + 1 + 1) x.s.attrs).1⟩, (mks (m + 1 + 1 + 1 + 1 + 1 + 1 + 1) x.s.attrs).2, (mks (m + 1 + 1 + 1 + 1 + 1 + 1 + 1) x.s.attrs).2 + 1, (mks ((mks (m + 1 + 1 + 1 + 1 + 1 + 1 + 1) x.s.attrs).2 + 1 + 1) x.hand).1, (mks ((mks (m + 1 + 1 + 1 + 1 + 1 + 1 + 1) x.s.attrs).2 + 1 + 1) x.hand).2⟩, (mks ((mks (m + 1 + 1 + 1 + 1 + 1 + 1 + 1) x.s.attrs).2 + 1 + 1) x.hand).2 + 1)⟩
instance : Fld Task where
  f := fun x => [.i x.op, .i x.pc, .i x.s.trace, .i x.s.id, .i x.s.start, .i x.s.fin, .b x.s.err, .l inferInstance inferInstance x.s.attrs, .i x.trace, .i x.stamp, .l inferInstance inferInstance x.hand, .i x.h]
  rep := by
    intro h x cs F
    constructor
    · rintro ⟨v0, v1, F0, F1, rfl, rfl, r0, r1⟩; exact ⟨_, rfl, ⟨_, rfl, ⟨_, rfl, ⟨_, rfl, ⟨_, rfl, ⟨_, rfl, ⟨_, rfl, ⟨v0, _, F0, F1 ++ [], rfl, by simp, r0, ⟨_, rfl, ⟨_, rfl, ⟨v1, _, F1, [], rfl, by simp, r1, ⟨_, rfl, ⟨rfl, rfl⟩⟩⟩⟩⟩⟩⟩⟩⟩⟩⟩⟩⟩
    · rintro ⟨_, rfl, ⟨_, rfl, ⟨_, rfl, ⟨_, rfl, ⟨_, rfl, ⟨_, rfl, ⟨_, rfl, ⟨v0, _, F0, _, rfl, rfl, r0, ⟨_, rfl, ⟨_, rfl, ⟨v1, _, F1, _, rfl, rfl, r1, ⟨_, rfl, ⟨rfl, rfl⟩⟩⟩⟩⟩⟩⟩⟩⟩⟩⟩⟩⟩; exact ⟨v0, v1, F0, F1, rfl, by simp, r0, r1⟩
  put := fun m x => ⟨rfl, rfl⟩
  ups := fun x => ⟨fun m => mks_upF _ m, ⟨fun m => mks_upF _ m, trivial⟩⟩
instance : Cnt Task := ⟨fun m x => by
  show (mks ((mks (m + 1 + 1 + 1 + 1 + 1 + 1 + 1) x.s.attrs).2 + 1 + 1) x.hand).2 + 1 ≤ m + 32 * (1 + ((Sz.sz x.s + (x.hand.length + szs x.hand) : Nat) : Int))
  have := mks_cnt32 x.s.attrs (m + 1 + 1 + 1 + 1 + 1 + 1 + 1)
  have := mks_cnt32 x.hand ((mks (m + 1 + 1 + 1 + 1 + 1 + 1 + 1) x.s.attrs).2 + 1 + 1)
  have e_s : Sz.sz x.s = (x.s.attrs.length + szs x.s.attrs) := rfl
  omega⟩

/-! ### Deed -/
instance : Sz Deed := ⟨fun x => Sz.sz x.s⟩
instance : Mk Deed := ⟨fun m x => (⟨m, m + 1, ⟨m + 1 + 1, m + 1 + 1 + 1, m + 1 + 1 + 1 + 1, m + 1 + 1 + 1 + 1 + 1, decide ((m + 1 + 1 + 1 + 1 + 1 + 1).tmod 3 = 0), (mks (m + 1 + 1 + 1 + 1 + 1 + 1 + 1) x.s.attrs).1⟩, (mks (m + 1 + 1 + 1 + 1 + 1 + 1 + 1) x.s.attrs).2, (mks (m + 1 + 1 + 1 + 1 + 1 + 1 + 1) x.s.attrs).2 + 1, (mks (m + 1 + 1 + 1 + 1 + 1 + 1 + 1) x.s.attrs).2 + 1 + 1, decide (((mks (m + 1 + 1 + 1 + 1 + 1 + 1 + 1) x.s.attrs).2 + 1 + 1 + 1).tmod 3 = 0), decide (((mks (m + 1 + 1 + 1 + 1 + 1 + 1 + 1) x.s.attrs).2 + 1 + 1 + 1 + 1).tmod 3 = 0), (mks (m + 1 + 1 + 1 + 1 + 1 + 1 + 1) x.s.attrs).2 + 1 + 1 + 1 + 1 + 1, (mks (m + 1 + 1 + 1 + 1 + 1 + 1 + 1) x.s.attrs).2 + 1 + 1 + 1 + 1 + 1 + 1, (mks (m + 1 + 1 + 1 + 1 + 1 + 1 + 1) x.s.attrs).2 + 1 + 1 + 1 + 1 + 1 + 1 + 1, (mks (m + 1 + 1 + 1 + 1 + 1 + 1 + 1) x.s.attrs).2 + 1 + 1 + 1 + 1 + 1 + 1 + 1 + 1, (mks (m + 1 + 1 + 1 + 1 + 1 + 1 + 1) x.s.attrs).2 + 1 + 1 + 1 + 1 + 1 + 1 + 1 + 1 + 1, (mks (m + 1 + 1 + 1 + 1 + 1 + 1 + 1) x.s.attrs).2 + 1 + 1 + 1 + 1 + 1 + 1 + 1 + 1 + 1 + 1, (mks (m + 1 + 1 + 1 + 1 + 1 + 1 + 1) x.s.attrs).2 + 1 + 1 + 1 + 1 + 1 + 1 + 1 + 1 + 1 + 1 + 1⟩, (mks (m + 1 + 1 + 1 + 1 + 1 + 1 + 1) x.s.attrs).2 + 1 + 1 + 1 + 1 + 1 + 1 + 1 + 1 + 1 + 1 + 1 + 1)⟩
instance : Fld Deed where
  f := fun x => [.i x.op, .i x.task, .i x.s.trace, .i x.s.id, .i x.s.start, .i x.s.fin, .b x.s.err, .l inferInstance inferInstance x.s.attrs, .i x.trace, .i x.stamp, .i x.code, .b x.keep, .b x.void, .i x.took, .i x.n, .i x.forgot, .i x.now, .i x.inv, .i x.lin, .i x.res]
  rep := by
    intro h x cs F
    constructor
    · rintro ⟨v0, rfl, r0⟩; exact ⟨_, rfl, ⟨_, rfl, ⟨_, rfl, ⟨_, rfl, ⟨_, rfl, ⟨_, rfl, ⟨_, rfl, ⟨v0, _, F, [], rfl, by simp, r0, ⟨_, rfl, ⟨_, rfl, ⟨_, rfl, ⟨_, rfl, ⟨_, rfl, ⟨_, rfl, ⟨_, rfl, ⟨_, rfl, ⟨_, rfl, ⟨_, rfl, ⟨_, rfl, ⟨_, rfl, ⟨rfl, rfl⟩⟩⟩⟩⟩⟩⟩⟩⟩⟩⟩⟩⟩⟩⟩⟩⟩⟩⟩⟩⟩
    · rintro ⟨_, rfl, ⟨_, rfl, ⟨_, rfl, ⟨_, rfl, ⟨_, rfl, ⟨_, rfl, ⟨_, rfl, ⟨v0, _, F0, _, rfl, rfl, r0, ⟨_, rfl, ⟨_, rfl, ⟨_, rfl, ⟨_, rfl, ⟨_, rfl, ⟨_, rfl, ⟨_, rfl, ⟨_, rfl, ⟨_, rfl, ⟨_, rfl, ⟨_, rfl, ⟨_, rfl, ⟨rfl, rfl⟩⟩⟩⟩⟩⟩⟩⟩⟩⟩⟩⟩⟩⟩⟩⟩⟩⟩⟩⟩⟩; exact ⟨v0, rfl, by simpa using r0⟩
  put := fun m x => ⟨rfl, rfl⟩
  ups := fun x => ⟨fun m => mks_upF _ m, trivial⟩
instance : Cnt Deed := ⟨fun m x => by
  show (mks (m + 1 + 1 + 1 + 1 + 1 + 1 + 1) x.s.attrs).2 + 1 + 1 + 1 + 1 + 1 + 1 + 1 + 1 + 1 + 1 + 1 + 1 ≤ m + 32 * (1 + ((Sz.sz x.s : Nat) : Int))
  have := mks_cnt32 x.s.attrs (m + 1 + 1 + 1 + 1 + 1 + 1 + 1)
  have e_s : Sz.sz x.s = (x.s.attrs.length + szs x.s.attrs) := rfl
  omega⟩
instance : Sz Bucket := ⟨fun x => 0⟩
instance : Sz Wheel := ⟨fun x => (x.near.length + szs x.near) + (x.far.length + szs x.far) + (x.rest.length + szs x.rest)⟩
instance : Sz Conf := ⟨fun x => Sz.sz x.rule⟩
instance : Sz Wld := ⟨fun x => Sz.sz x.c + (x.st.length + szs x.st) + (x.cache.length + szs x.cache) + Sz.sz x.w + (x.due.length + szs x.due) + (x.queue.length + szs x.queue) + (x.out.length + szs x.out) + (x.tasks.length + szs x.tasks) + (x.deeds.length + szs x.deeds)⟩
end Go.Ab
