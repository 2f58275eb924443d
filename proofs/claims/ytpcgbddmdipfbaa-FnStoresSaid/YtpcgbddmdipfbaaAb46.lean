/- A world behind a pointer. Written by mkw.py. -/
import Derived.Test.YtpcgbddmdipfbaaAb45
set_option linter.unusedSimpArgs false
set_option linter.unusedVariables false
namespace Go.Ab
open Go.RowKit

/-- Lists of blocks of one's own, apart from one another and from 'b'. -/
structure WSep (n : Nat) (h : AH) (b : Nat) (L : List (List Nat)) : Prop where
  own : ∀ (i : Nat) (G : List Nat), L[i]? = some G → OwnL n h G ∧ b ∉ G
  dis : ∀ (i j : Nat) (G H : List Nat), i ≠ j → L[i]? = some G → L[j]? = some H → ∀ c ∈ G, c ∉ H
section
variable {n b : Nat} {h h' : AH} {L : List (List Nat)}
theorem get_set' {i j : Nat} {f G : List Nat} (e : (L.set i f)[j]? = some G) : (j = i ∧ G = f) ∨ (j ≠ i ∧ L[j]? = some G) := by
  rw [List.getElem?_set] at e
  split at e
  · rename_i hij
    split at e
    · cases e; exact .inl ⟨hij.symm, rfl⟩
    · cases e
  · rename_i hij; exact .inr ⟨fun e => hij e.symm, e⟩
theorem WSep.set (s : WSep n h b L) {i : Nat} {F f : List Nat} (hF : L[i]? = some F) (k : Kp h h' (b :: F)) (o : OwnL n h' f) (hb : b ∉ f) (fr : ∀ c ∈ f, c ∈ F ∨ h.n ≤ c) : WSep n h' b (L.set i f) := by
  have dj : ∀ (j : Nat) (G : List Nat), j ≠ i → L[j]? = some G → ∀ c ∈ f, c ∉ G := fun j G hj hG c hc hc' => by
    rcases fr c hc with h1 | h1
    · exact s.dis i j F G (fun e => hj e.symm) hF hG c h1 hc'
    · have := (s.own j G hG).1.2 c hc'; omega
  refine ⟨fun j G hG => ?_, fun j l G H hjl hG hH => ?_⟩
  · rcases get_set' hG with ⟨_, rfl⟩ | ⟨hj, hG⟩
    · exact ⟨o, hb⟩
    · have := s.own j G hG
      refine ⟨ol_kp1 k this.1 fun c hc hX => ?_, this.2⟩
      rcases List.mem_cons.1 hX with e | e
      · subst e; exact this.2 hc
      · exact s.dis j i G F hj hG hF c hc e
  · rcases get_set' hG with ⟨a1, a2⟩ | ⟨hj, hG2⟩ <;> rcases get_set' hH with ⟨b1, b2⟩ | ⟨hl, hH2⟩
    · exact absurd (a1.trans b1.symm) hjl
    · rw [a2]; exact dj l H hl hH2
    · rw [b2]; exact fun c hc hc' => dj j G hj hG2 c hc' hc
    · exact s.dis j l G H hjl hG2 hH2
theorem WSep.keep (s : WSep n h b L) (k : Kp h h' [b]) : WSep n h' b L :=
  ⟨fun j G hG => by
    have := s.own j G hG
    exact ⟨ol_kp1 k this.1 fun c hc hX => this.2 (List.mem_singleton.1 hX ▸ hc), this.2⟩, s.dis⟩
theorem WSep.ext (s : WSep n h b L) (e : Ext h h') : WSep n h' b L :=
  ⟨fun j G hG => ⟨ol_ext1 e (s.own j G hG).1, (s.own j G hG).2⟩, s.dis⟩
end
/-- The values of a world's slices, and the blocks behind them. -/
structure WV where
  v0 : AV
  v1 : AV
  v2 : AV
  v3 : AV
  v4 : AV
  v5 : AV
  v6 : AV
  v7 : AV
  v8 : AV
  v9 : AV
  v10 : AV
structure WF where
  f0 : List Nat
  f1 : List Nat
  f2 : List Nat
  f3 : List Nat
  f4 : List Nat
  f5 : List Nat
  f6 : List Nat
  f7 : List Nat
  f8 : List Nat
  f9 : List Nat
  f10 : List Nat
def WF.l (F : WF) : List (List Nat) := [F.f0, F.f1, F.f2, F.f3, F.f4, F.f5, F.f6, F.f7, F.f8, F.f9, F.f10]
abbrev Wld.cv (x : Wld) (V : WV) : List AV := x.cs V.v0 V.v1 V.v2 V.v3 V.v4 V.v5 V.v6 V.v7 V.v8 V.v9 V.v10
structure PW (n : Nat) (h : AH) (b : Nat) (x : Wld) (V : WV) (F : WF) : Prop where
  bk : Bk h b (x.cv V) 0
  nb : n ≤ b
  sep : WSep n h b F.l
  r0 : SlRep h V.v0 x.c.rule.l F.f0
  r1 : SlRep h V.v1 x.st F.f1
  r2 : SlRep h V.v2 x.cache F.f2
  r3 : SlRep h V.v3 x.w.near F.f3
  r4 : SlRep h V.v4 x.w.far F.f4
  r5 : SlRep h V.v5 x.w.rest F.f5
  r6 : SlRep h V.v6 x.due F.f6
  r7 : SlRep h V.v7 x.queue F.f7
  r8 : SlRep h V.v8 x.out F.f8
  r9 : SlRep h V.v9 x.tasks F.f9
  r10 : SlRep h V.v10 x.deeds F.f10
section
variable {n b : Nat} {h h' : AH} {x : Wld} {V : WV} {F : WF}
theorem PW.o0 (w : PW n h b x V F) : Own n h F.f0 := (w.sep.own 0 _ rfl).1.1
theorem PW.l0 (w : PW n h b x V F) : OwnL n h F.f0 := (w.sep.own 0 _ rfl).1
theorem PW.n0 (w : PW n h b x V F) : b ∉ F.f0 := (w.sep.own 0 _ rfl).2
theorem PW.o1 (w : PW n h b x V F) : Own n h F.f1 := (w.sep.own 1 _ rfl).1.1
theorem PW.l1 (w : PW n h b x V F) : OwnL n h F.f1 := (w.sep.own 1 _ rfl).1
theorem PW.n1 (w : PW n h b x V F) : b ∉ F.f1 := (w.sep.own 1 _ rfl).2
theorem PW.o2 (w : PW n h b x V F) : Own n h F.f2 := (w.sep.own 2 _ rfl).1.1
theorem PW.l2 (w : PW n h b x V F) : OwnL n h F.f2 := (w.sep.own 2 _ rfl).1
theorem PW.n2 (w : PW n h b x V F) : b ∉ F.f2 := (w.sep.own 2 _ rfl).2
theorem PW.o3 (w : PW n h b x V F) : Own n h F.f3 := (w.sep.own 3 _ rfl).1.1
theorem PW.l3 (w : PW n h b x V F) : OwnL n h F.f3 := (w.sep.own 3 _ rfl).1
theorem PW.n3 (w : PW n h b x V F) : b ∉ F.f3 := (w.sep.own 3 _ rfl).2
theorem PW.o4 (w : PW n h b x V F) : Own n h F.f4 := (w.sep.own 4 _ rfl).1.1
theorem PW.l4 (w : PW n h b x V F) : OwnL n h F.f4 := (w.sep.own 4 _ rfl).1
theorem PW.n4 (w : PW n h b x V F) : b ∉ F.f4 := (w.sep.own 4 _ rfl).2
theorem PW.o5 (w : PW n h b x V F) : Own n h F.f5 := (w.sep.own 5 _ rfl).1.1
theorem PW.l5 (w : PW n h b x V F) : OwnL n h F.f5 := (w.sep.own 5 _ rfl).1
theorem PW.n5 (w : PW n h b x V F) : b ∉ F.f5 := (w.sep.own 5 _ rfl).2
theorem PW.o6 (w : PW n h b x V F) : Own n h F.f6 := (w.sep.own 6 _ rfl).1.1
theorem PW.l6 (w : PW n h b x V F) : OwnL n h F.f6 := (w.sep.own 6 _ rfl).1
theorem PW.n6 (w : PW n h b x V F) : b ∉ F.f6 := (w.sep.own 6 _ rfl).2
theorem PW.o7 (w : PW n h b x V F) : Own n h F.f7 := (w.sep.own 7 _ rfl).1.1
theorem PW.l7 (w : PW n h b x V F) : OwnL n h F.f7 := (w.sep.own 7 _ rfl).1
theorem PW.n7 (w : PW n h b x V F) : b ∉ F.f7 := (w.sep.own 7 _ rfl).2
theorem PW.o8 (w : PW n h b x V F) : Own n h F.f8 := (w.sep.own 8 _ rfl).1.1
theorem PW.l8 (w : PW n h b x V F) : OwnL n h F.f8 := (w.sep.own 8 _ rfl).1
theorem PW.n8 (w : PW n h b x V F) : b ∉ F.f8 := (w.sep.own 8 _ rfl).2
theorem PW.o9 (w : PW n h b x V F) : Own n h F.f9 := (w.sep.own 9 _ rfl).1.1
theorem PW.l9 (w : PW n h b x V F) : OwnL n h F.f9 := (w.sep.own 9 _ rfl).1
theorem PW.n9 (w : PW n h b x V F) : b ∉ F.f9 := (w.sep.own 9 _ rfl).2
theorem PW.o10 (w : PW n h b x V F) : Own n h F.f10 := (w.sep.own 10 _ rfl).1.1
theorem PW.l10 (w : PW n h b x V F) : OwnL n h F.f10 := (w.sep.own 10 _ rfl).1
theorem PW.n10 (w : PW n h b x V F) : b ∉ F.f10 := (w.sep.own 10 _ rfl).2
theorem PW.ext (w : PW n h b x V F) (e : Ext h h') : PW n h' b x V F := ⟨bk_ext1 e w.bk, w.nb, w.sep.ext e, w.r0.ext e, w.r1.ext e, w.r2.ext e, w.r3.ext e, w.r4.ext e, w.r5.ext e, w.r6.ext e, w.r7.ext e, w.r8.ext e, w.r9.ext e, w.r10.ext e⟩
theorem PW.low {m : Nat} (w : PW n h b x V F) (hm : m ≤ n) : PW m h b x V F := ⟨w.bk, Nat.le_trans hm w.nb, ⟨fun i G hG => ⟨⟨(w.sep.own i G hG).1.1.mono hm fun _ _ => rfl, (w.sep.own i G hG).1.2⟩, (w.sep.own i G hG).2⟩, w.sep.dis⟩, w.r0, w.r1, w.r2, w.r3, w.r4, w.r5, w.r6, w.r7, w.r8, w.r9, w.r10⟩
/-- Numbers are set. -/
theorem PW.put (w : PW n h b x V F) {x' : Wld} (bk : Bk h' b (x'.cv V) 0) (k : Kp h h' [b]) (e0 : x'.c.rule.l = x.c.rule.l := by rfl) (e1 : x'.st = x.st := by rfl) (e2 : x'.cache = x.cache := by rfl) (e3 : x'.w.near = x.w.near := by rfl) (e4 : x'.w.far = x.w.far := by rfl) (e5 : x'.w.rest = x.w.rest := by rfl) (e6 : x'.due = x.due := by rfl) (e7 : x'.queue = x.queue := by rfl) (e8 : x'.out = x.out := by rfl) (e9 : x'.tasks = x.tasks := by rfl) (e10 : x'.deeds = x.deeds := by rfl) : PW n h' b x' V F :=
  ⟨bk, w.nb, w.sep.keep k, by rw [e0]; exact slr_kp1 k w.r0 fun c hc hX => w.n0 (List.mem_singleton.1 hX ▸ hc), by rw [e1]; exact slr_kp1 k w.r1 fun c hc hX => w.n1 (List.mem_singleton.1 hX ▸ hc), by rw [e2]; exact slr_kp1 k w.r2 fun c hc hX => w.n2 (List.mem_singleton.1 hX ▸ hc), by rw [e3]; exact slr_kp1 k w.r3 fun c hc hX => w.n3 (List.mem_singleton.1 hX ▸ hc), by rw [e4]; exact slr_kp1 k w.r4 fun c hc hX => w.n4 (List.mem_singleton.1 hX ▸ hc), by rw [e5]; exact slr_kp1 k w.r5 fun c hc hX => w.n5 (List.mem_singleton.1 hX ▸ hc), by rw [e6]; exact slr_kp1 k w.r6 fun c hc hX => w.n6 (List.mem_singleton.1 hX ▸ hc), by rw [e7]; exact slr_kp1 k w.r7 fun c hc hX => w.n7 (List.mem_singleton.1 hX ▸ hc), by rw [e8]; exact slr_kp1 k w.r8 fun c hc hX => w.n8 (List.mem_singleton.1 hX ▸ hc), by rw [e9]; exact slr_kp1 k w.r9 fun c hc hX => w.n9 (List.mem_singleton.1 hX ▸ hc), by rw [e10]; exact slr_kp1 k w.r10 fun c hc hX => w.n10 (List.mem_singleton.1 hX ▸ hc)⟩
theorem PW.put0 (w : PW n h b x V F) {x' : Wld} {v : AV} {f : List Nat} (bk : Bk h' b (x'.cv { V with v0 := v }) 0) (k : Kp h h' (b :: F.f0)) (r : SlRep h' v x'.c.rule.l f) (o : Own n h' f) (hb : b ∉ f) (fr : ∀ c ∈ f, c ∈ F.f0 ∨ h.n ≤ c) (e1 : x'.st = x.st := by rfl) (e2 : x'.cache = x.cache := by rfl) (e3 : x'.w.near = x.w.near := by rfl) (e4 : x'.w.far = x.w.far := by rfl) (e5 : x'.w.rest = x.w.rest := by rfl) (e6 : x'.due = x.due := by rfl) (e7 : x'.queue = x.queue := by rfl) (e8 : x'.out = x.out := by rfl) (e9 : x'.tasks = x.tasks := by rfl) (e10 : x'.deeds = x.deeds := by rfl) : PW n h' b x' { V with v0 := v } { F with f0 := f } :=
  have dj : ∀ (j : Nat) (G : List Nat), j ≠ 0 → F.l[j]? = some G → ∀ c ∈ G, c ∉ b :: F.f0 := fun j G hj hG c hc hX => by
    rcases List.mem_cons.1 hX with e | e
    · subst e; exact (w.sep.own j G hG).2 hc
    · exact w.sep.dis j 0 G _ hj hG rfl c hc e
  ⟨bk, w.nb, w.sep.set (i := 0) rfl k ⟨o, r.lt⟩ hb fr, r, by rw [e1]; exact slr_kp1 k w.r1 (dj 1 _ (by decide) rfl), by rw [e2]; exact slr_kp1 k w.r2 (dj 2 _ (by decide) rfl), by rw [e3]; exact slr_kp1 k w.r3 (dj 3 _ (by decide) rfl), by rw [e4]; exact slr_kp1 k w.r4 (dj 4 _ (by decide) rfl), by rw [e5]; exact slr_kp1 k w.r5 (dj 5 _ (by decide) rfl), by rw [e6]; exact slr_kp1 k w.r6 (dj 6 _ (by decide) rfl), by rw [e7]; exact slr_kp1 k w.r7 (dj 7 _ (by decide) rfl), by rw [e8]; exact slr_kp1 k w.r8 (dj 8 _ (by decide) rfl), by rw [e9]; exact slr_kp1 k w.r9 (dj 9 _ (by decide) rfl), by rw [e10]; exact slr_kp1 k w.r10 (dj 10 _ (by decide) rfl)⟩
theorem PW.put1 (w : PW n h b x V F) {x' : Wld} {v : AV} {f : List Nat} (bk : Bk h' b (x'.cv { V with v1 := v }) 0) (k : Kp h h' (b :: F.f1)) (r : SlRep h' v x'.st f) (o : Own n h' f) (hb : b ∉ f) (fr : ∀ c ∈ f, c ∈ F.f1 ∨ h.n ≤ c) (e0 : x'.c.rule.l = x.c.rule.l := by rfl) (e2 : x'.cache = x.cache := by rfl) (e3 : x'.w.near = x.w.near := by rfl) (e4 : x'.w.far = x.w.far := by rfl) (e5 : x'.w.rest = x.w.rest := by rfl) (e6 : x'.due = x.due := by rfl) (e7 : x'.queue = x.queue := by rfl) (e8 : x'.out = x.out := by rfl) (e9 : x'.tasks = x.tasks := by rfl) (e10 : x'.deeds = x.deeds := by rfl) : PW n h' b x' { V with v1 := v } { F with f1 := f } :=
  have dj : ∀ (j : Nat) (G : List Nat), j ≠ 1 → F.l[j]? = some G → ∀ c ∈ G, c ∉ b :: F.f1 := fun j G hj hG c hc hX => by
    rcases List.mem_cons.1 hX with e | e
    · subst e; exact (w.sep.own j G hG).2 hc
    · exact w.sep.dis j 1 G _ hj hG rfl c hc e
  ⟨bk, w.nb, w.sep.set (i := 1) rfl k ⟨o, r.lt⟩ hb fr, by rw [e0]; exact slr_kp1 k w.r0 (dj 0 _ (by decide) rfl), r, by rw [e2]; exact slr_kp1 k w.r2 (dj 2 _ (by decide) rfl), by rw [e3]; exact slr_kp1 k w.r3 (dj 3 _ (by decide) rfl), by rw [e4]; exact slr_kp1 k w.r4 (dj 4 _ (by decide) rfl), by rw [e5]; exact slr_kp1 k w.r5 (dj 5 _ (by decide) rfl), by rw [e6]; exact slr_kp1 k w.r6 (dj 6 _ (by decide) rfl), by rw [e7]; exact slr_kp1 k w.r7 (dj 7 _ (by decide) rfl), by rw [e8]; exact slr_kp1 k w.r8 (dj 8 _ (by decide) rfl), by rw [e9]; exact slr_kp1 k w.r9 (dj 9 _ (by decide) rfl), by rw [e10]; exact slr_kp1 k w.r10 (dj 10 _ (by decide) rfl)⟩
theorem PW.put2 (w : PW n h b x V F) {x' : Wld} {v : AV} {f : List Nat} (bk : Bk h' b (x'.cv { V with v2 := v }) 0) (k : Kp h h' (b :: F.f2)) (r : SlRep h' v x'.cache f) (o : Own n h' f) (hb : b ∉ f) (fr : ∀ c ∈ f, c ∈ F.f2 ∨ h.n ≤ c) (e0 : x'.c.rule.l = x.c.rule.l := by rfl) (e1 : x'.st = x.st := by rfl) (e3 : x'.w.near = x.w.near := by rfl) (e4 : x'.w.far = x.w.far := by rfl) (e5 : x'.w.rest = x.w.rest := by rfl) (e6 : x'.due = x.due := by rfl) (e7 : x'.queue = x.queue := by rfl) (e8 : x'.out = x.out := by rfl) (e9 : x'.tasks = x.tasks := by rfl) (e10 : x'.deeds = x.deeds := by rfl) : PW n h' b x' { V with v2 := v } { F with f2 := f } :=
  have dj : ∀ (j : Nat) (G : List Nat), j ≠ 2 → F.l[j]? = some G → ∀ c ∈ G, c ∉ b :: F.f2 := fun j G hj hG c hc hX => by
    rcases List.mem_cons.1 hX with e | e
    · subst e; exact (w.sep.own j G hG).2 hc
    · exact w.sep.dis j 2 G _ hj hG rfl c hc e
  ⟨bk, w.nb, w.sep.set (i := 2) rfl k ⟨o, r.lt⟩ hb fr, by rw [e0]; exact slr_kp1 k w.r0 (dj 0 _ (by decide) rfl), by rw [e1]; exact slr_kp1 k w.r1 (dj 1 _ (by decide) rfl), r, by rw [e3]; exact slr_kp1 k w.r3 (dj 3 _ (by decide) rfl), by rw [e4]; exact slr_kp1 k w.r4 (dj 4 _ (by decide) rfl), by rw [e5]; exact slr_kp1 k w.r5 (dj 5 _ (by decide) rfl), by rw [e6]; exact slr_kp1 k w.r6 (dj 6 _ (by decide) rfl), by rw [e7]; exact slr_kp1 k w.r7 (dj 7 _ (by decide) rfl), by rw [e8]; exact slr_kp1 k w.r8 (dj 8 _ (by decide) rfl), by rw [e9]; exact slr_kp1 k w.r9 (dj 9 _ (by decide) rfl), by rw [e10]; exact slr_kp1 k w.r10 (dj 10 _ (by decide) rfl)⟩
theorem PW.put3 (w : PW n h b x V F) {x' : Wld} {v : AV} {f : List Nat} (bk : Bk h' b (x'.cv { V with v3 := v }) 0) (k : Kp h h' (b :: F.f3)) (r : SlRep h' v x'.w.near f) (o : Own n h' f) (hb : b ∉ f) (fr : ∀ c ∈ f, c ∈ F.f3 ∨ h.n ≤ c) (e0 : x'.c.rule.l = x.c.rule.l := by rfl) (e1 : x'.st = x.st := by rfl) (e2 : x'.cache = x.cache := by rfl) (e4 : x'.w.far = x.w.far := by rfl) (e5 : x'.w.rest = x.w.rest := by rfl) (e6 : x'.due = x.due := by rfl) (e7 : x'.queue = x.queue := by rfl) (e8 : x'.out = x.out := by rfl) (e9 : x'.tasks = x.tasks := by rfl) (e10 : x'.deeds = x.deeds := by rfl) : PW n h' b x' { V with v3 := v } { F with f3 := f } :=
  have dj : ∀ (j : Nat) (G : List Nat), j ≠ 3 → F.l[j]? = some G → ∀ c ∈ G, c ∉ b :: F.f3 := fun j G hj hG c hc hX => by
    rcases List.mem_cons.1 hX with e | e
    · subst e; exact (w.sep.own j G hG).2 hc
    · exact w.sep.dis j 3 G _ hj hG rfl c hc e
  ⟨bk, w.nb, w.sep.set (i := 3) rfl k ⟨o, r.lt⟩ hb fr, by rw [e0]; exact slr_kp1 k w.r0 (dj 0 _ (by decide) rfl), by rw [e1]; exact slr_kp1 k w.r1 (dj 1 _ (by decide) rfl), by rw [e2]; exact slr_kp1 k w.r2 (dj 2 _ (by decide) rfl), r, by rw [e4]; exact slr_kp1 k w.r4 (dj 4 _ (by decide) rfl), by rw [e5]; exact slr_kp1 k w.r5 (dj 5 _ (by decide) rfl), by rw [e6]; exact slr_kp1 k w.r6 (dj 6 _ (by decide) rfl), by rw [e7]; exact slr_kp1 k w.r7 (dj 7 _ (by decide) rfl), by rw [e8]; exact slr_kp1 k w.r8 (dj 8 _ (by decide) rfl), by rw [e9]; exact slr_kp1 k w.r9 (dj 9 _ (by decide) rfl), by rw [e10]; exact slr_kp1 k w.r10 (dj 10 _ (by decide) rfl)⟩
theorem PW.put4 (w : PW n h b x V F) {x' : Wld} {v : AV} {f : List Nat} (bk : Bk h' b (x'.cv { V with v4 := v }) 0) (k : Kp h h' (b :: F.f4)) (r : SlRep h' v x'.w.far f) (o : Own n h' f) (hb : b ∉ f) (fr : ∀ c ∈ f, c ∈ F.f4 ∨ h.n ≤ c) (e0 : x'.c.rule.l = x.c.rule.l := by rfl) (e1 : x'.st = x.st := by rfl) (e2 : x'.cache = x.cache := by rfl) (e3 : x'.w.near = x.w.near := by rfl) (e5 : x'.w.rest = x.w.rest := by rfl) (e6 : x'.due = x.due := by rfl) (e7 : x'.queue = x.queue := by rfl) (e8 : x'.out = x.out := by rfl) (e9 : x'.tasks = x.tasks := by rfl) (e10 : x'.deeds = x.deeds := by rfl) : PW n h' b x' { V with v4 := v } { F with f4 := f } :=
  have dj : ∀ (j : Nat) (G : List Nat), j ≠ 4 → F.l[j]? = some G → ∀ c ∈ G, c ∉ b :: F.f4 := fun j G hj hG c hc hX => by
    rcases List.mem_cons.1 hX with e | e
    · subst e; exact (w.sep.own j G hG).2 hc
    · exact w.sep.dis j 4 G _ hj hG rfl c hc e
  ⟨bk, w.nb, w.sep.set (i := 4) rfl k ⟨o, r.lt⟩ hb fr, by rw [e0]; exact slr_kp1 k w.r0 (dj 0 _ (by decide) rfl), by rw [e1]; exact slr_kp1 k w.r1 (dj 1 _ (by decide) rfl), by rw [e2]; exact slr_kp1 k w.r2 (dj 2 _ (by decide) rfl), by rw [e3]; exact slr_kp1 k w.r3 (dj 3 _ (by decide) rfl), r, by rw [e5]; exact slr_kp1 k w.r5 (dj 5 _ (by decide) rfl), by rw [e6]; exact slr_kp1 k w.r6 (dj 6 _ (by decide) rfl), by rw [e7]; exact slr_kp1 k w.r7 (dj 7 _ (by decide) rfl), by rw [e8]; exact slr_kp1 k w.r8 (dj 8 _ (by decide) rfl), by rw [e9]; exact slr_kp1 k w.r9 (dj 9 _ (by decide) rfl), by rw [e10]; exact slr_kp1 k w.r10 (dj 10 _ (by decide) rfl)⟩
theorem PW.put5 (w : PW n h b x V F) {x' : Wld} {v : AV} {f : List Nat} (bk : Bk h' b (x'.cv { V with v5 := v }) 0) (k : Kp h h' (b :: F.f5)) (r : SlRep h' v x'.w.rest f) (o : Own n h' f) (hb : b ∉ f) (fr : ∀ c ∈ f, c ∈ F.f5 ∨ h.n ≤ c) (e0 : x'.c.rule.l = x.c.rule.l := by rfl) (e1 : x'.st = x.st := by rfl) (e2 : x'.cache = x.cache := by rfl) (e3 : x'.w.near = x.w.near := by rfl) (e4 : x'.w.far = x.w.far := by rfl) (e6 : x'.due = x.due := by rfl) (e7 : x'.queue = x.queue := by rfl) (e8 : x'.out = x.out := by rfl) (e9 : x'.tasks = x.tasks := by rfl) (e10 : x'.deeds = x.deeds := by rfl) : PW n h' b x' { V with v5 := v } { F with f5 := f } :=
  have dj : ∀ (j : Nat) (G : List Nat), j ≠ 5 → F.l[j]? = some G → ∀ c ∈ G, c ∉ b :: F.f5 := fun j G hj hG c hc hX => by
    rcases List.mem_cons.1 hX with e | e
    · subst e; exact (w.sep.own j G hG).2 hc
    · exact w.sep.dis j 5 G _ hj hG rfl c hc e
  ⟨bk, w.nb, w.sep.set (i := 5) rfl k ⟨o, r.lt⟩ hb fr, by rw [e0]; exact slr_kp1 k w.r0 (dj 0 _ (by decide) rfl), by rw [e1]; exact slr_kp1 k w.r1 (dj 1 _ (by decide) rfl), by rw [e2]; exact slr_kp1 k w.r2 (dj 2 _ (by decide) rfl), by rw [e3]; exact slr_kp1 k w.r3 (dj 3 _ (by decide) rfl), by rw [e4]; exact slr_kp1 k w.r4 (dj 4 _ (by decide) rfl), r, by rw [e6]; exact slr_kp1 k w.r6 (dj 6 _ (by decide) rfl), by rw [e7]; exact slr_kp1 k w.r7 (dj 7 _ (by decide) rfl), by rw [e8]; exact slr_kp1 k w.r8 (dj 8 _ (by decide) rfl), by rw [e9]; exact slr_kp1 k w.r9 (dj 9 _ (by decide) rfl), by rw [e10]; exact slr_kp1 k w.r10 (dj 10 _ (by decide) rfl)⟩
theorem PW.put6 (w : PW n h b x V F) {x' : Wld} {v : AV} {f : List Nat} (bk : Bk h' b (x'.cv { V with v6 := v }) 0) (k : Kp h h' (b :: F.f6)) (r : SlRep h' v x'.due f) (o : Own n h' f) (hb : b ∉ f) (fr : ∀ c ∈ f, c ∈ F.f6 ∨ h.n ≤ c) (e0 : x'.c.rule.l = x.c.rule.l := by rfl) (e1 : x'.st = x.st := by rfl) (e2 : x'.cache = x.cache := by rfl) (e3 : x'.w.near = x.w.near := by rfl) (e4 : x'.w.far = x.w.far := by rfl) (e5 : x'.w.rest = x.w.rest := by rfl) (e7 : x'.queue = x.queue := by rfl) (e8 : x'.out = x.out := by rfl) (e9 : x'.tasks = x.tasks := by rfl) (e10 : x'.deeds = x.deeds := by rfl) : PW n h' b x' { V with v6 := v } { F with f6 := f } :=
  have dj : ∀ (j : Nat) (G : List Nat), j ≠ 6 → F.l[j]? = some G → ∀ c ∈ G, c ∉ b :: F.f6 := fun j G hj hG c hc hX => by
    rcases List.mem_cons.1 hX with e | e
    · subst e; exact (w.sep.own j G hG).2 hc
    · exact w.sep.dis j 6 G _ hj hG rfl c hc e
  ⟨bk, w.nb, w.sep.set (i := 6) rfl k ⟨o, r.lt⟩ hb fr, by rw [e0]; exact slr_kp1 k w.r0 (dj 0 _ (by decide) rfl), by rw [e1]; exact slr_kp1 k w.r1 (dj 1 _ (by decide) rfl), by rw [e2]; exact slr_kp1 k w.r2 (dj 2 _ (by decide) rfl), by rw [e3]; exact slr_kp1 k w.r3 (dj 3 _ (by decide) rfl), by rw [e4]; exact slr_kp1 k w.r4 (dj 4 _ (by decide) rfl), by rw [e5]; exact slr_kp1 k w.r5 (dj 5 _ (by decide) rfl), r, by rw [e7]; exact slr_kp1 k w.r7 (dj 7 _ (by decide) rfl), by rw [e8]; exact slr_kp1 k w.r8 (dj 8 _ (by decide) rfl), by rw [e9]; exact slr_kp1 k w.r9 (dj 9 _ (by decide) rfl), by rw [e10]; exact slr_kp1 k w.r10 (dj 10 _ (by decide) rfl)⟩
theorem PW.put7 (w : PW n h b x V F) {x' : Wld} {v : AV} {f : List Nat} (bk : Bk h' b (x'.cv { V with v7 := v }) 0) (k : Kp h h' (b :: F.f7)) (r : SlRep h' v x'.queue f) (o : Own n h' f) (hb : b ∉ f) (fr : ∀ c ∈ f, c ∈ F.f7 ∨ h.n ≤ c) (e0 : x'.c.rule.l = x.c.rule.l := by rfl) (e1 : x'.st = x.st := by rfl) (e2 : x'.cache = x.cache := by rfl) (e3 : x'.w.near = x.w.near := by rfl) (e4 : x'.w.far = x.w.far := by rfl) (e5 : x'.w.rest = x.w.rest := by rfl) (e6 : x'.due = x.due := by rfl) (e8 : x'.out = x.out := by rfl) (e9 : x'.tasks = x.tasks := by rfl) (e10 : x'.deeds = x.deeds := by rfl) : PW n h' b x' { V with v7 := v } { F with f7 := f } :=
  have dj : ∀ (j : Nat) (G : List Nat), j ≠ 7 → F.l[j]? = some G → ∀ c ∈ G, c ∉ b :: F.f7 := fun j G hj hG c hc hX => by
    rcases List.mem_cons.1 hX with e | e
    · subst e; exact (w.sep.own j G hG).2 hc
    · exact w.sep.dis j 7 G _ hj hG rfl c hc e
  ⟨bk, w.nb, w.sep.set (i := 7) rfl k ⟨o, r.lt⟩ hb fr, by rw [e0]; exact slr_kp1 k w.r0 (dj 0 _ (by decide) rfl), by rw [e1]; exact slr_kp1 k w.r1 (dj 1 _ (by decide) rfl), by rw [e2]; exact slr_kp1 k w.r2 (dj 2 _ (by decide) rfl), by rw [e3]; exact slr_kp1 k w.r3 (dj 3 _ (by decide) rfl), by rw [e4]; exact slr_kp1 k w.r4 (dj 4 _ (by decide) rfl), by rw [e5]; exact slr_kp1 k w.r5 (dj 5 _ (by decide) rfl), by rw [e6]; exact slr_kp1 k w.r6 (dj 6 _ (by decide) rfl), r, by rw [e8]; exact slr_kp1 k w.r8 (dj 8 _ (by decide) rfl), by rw [e9]; exact slr_kp1 k w.r9 (dj 9 _ (by decide) rfl), by rw [e10]; exact slr_kp1 k w.r10 (dj 10 _ (by decide) rfl)⟩
theorem PW.put8 (w : PW n h b x V F) {x' : Wld} {v : AV} {f : List Nat} (bk : Bk h' b (x'.cv { V with v8 := v }) 0) (k : Kp h h' (b :: F.f8)) (r : SlRep h' v x'.out f) (o : Own n h' f) (hb : b ∉ f) (fr : ∀ c ∈ f, c ∈ F.f8 ∨ h.n ≤ c) (e0 : x'.c.rule.l = x.c.rule.l := by rfl) (e1 : x'.st = x.st := by rfl) (e2 : x'.cache = x.cache := by rfl) (e3 : x'.w.near = x.w.near := by rfl) (e4 : x'.w.far = x.w.far := by rfl) (e5 : x'.w.rest = x.w.rest := by rfl) (e6 : x'.due = x.due := by rfl) (e7 : x'.queue = x.queue := by rfl) (e9 : x'.tasks = x.tasks := by rfl) (e10 : x'.deeds = x.deeds := by rfl) : PW n h' b x' { V with v8 := v } { F with f8 := f } :=
  have dj : ∀ (j : Nat) (G : List Nat), j ≠ 8 → F.l[j]? = some G → ∀ c ∈ G, c ∉ b :: F.f8 := fun j G hj hG c hc hX => by
    rcases List.mem_cons.1 hX with e | e
    · subst e; exact (w.sep.own j G hG).2 hc
    · exact w.sep.dis j 8 G _ hj hG rfl c hc e
  ⟨bk, w.nb, w.sep.set (i := 8) rfl k ⟨o, r.lt⟩ hb fr, by rw [e0]; exact slr_kp1 k w.r0 (dj 0 _ (by decide) rfl), by rw [e1]; exact slr_kp1 k w.r1 (dj 1 _ (by decide) rfl), by rw [e2]; exact slr_kp1 k w.r2 (dj 2 _ (by decide) rfl), by rw [e3]; exact slr_kp1 k w.r3 (dj 3 _ (by decide) rfl), by rw [e4]; exact slr_kp1 k w.r4 (dj 4 _ (by decide) rfl), by rw [e5]; exact slr_kp1 k w.r5 (dj 5 _ (by decide) rfl), by rw [e6]; exact slr_kp1 k w.r6 (dj 6 _ (by decide) rfl), by rw [e7]; exact slr_kp1 k w.r7 (dj 7 _ (by decide) rfl), r, by rw [e9]; exact slr_kp1 k w.r9 (dj 9 _ (by decide) rfl), by rw [e10]; exact slr_kp1 k w.r10 (dj 10 _ (by decide) rfl)⟩
theorem PW.put9 (w : PW n h b x V F) {x' : Wld} {v : AV} {f : List Nat} (bk : Bk h' b (x'.cv { V with v9 := v }) 0) (k : Kp h h' (b :: F.f9)) (r : SlRep h' v x'.tasks f) (o : Own n h' f) (hb : b ∉ f) (fr : ∀ c ∈ f, c ∈ F.f9 ∨ h.n ≤ c) (e0 : x'.c.rule.l = x.c.rule.l := by rfl) (e1 : x'.st = x.st := by rfl) (e2 : x'.cache = x.cache := by rfl) (e3 : x'.w.near = x.w.near := by rfl) (e4 : x'.w.far = x.w.far := by rfl) (e5 : x'.w.rest = x.w.rest := by rfl) (e6 : x'.due = x.due := by rfl) (e7 : x'.queue = x.queue := by rfl) (e8 : x'.out = x.out := by rfl) (e10 : x'.deeds = x.deeds := by rfl) : PW n h' b x' { V with v9 := v } { F with f9 := f } :=
  have dj : ∀ (j : Nat) (G : List Nat), j ≠ 9 → F.l[j]? = some G → ∀ c ∈ G, c ∉ b :: F.f9 := fun j G hj hG c hc hX => by
    rcases List.mem_cons.1 hX with e | e
    · subst e; exact (w.sep.own j G hG).2 hc
    · exact w.sep.dis j 9 G _ hj hG rfl c hc e
  ⟨bk, w.nb, w.sep.set (i := 9) rfl k ⟨o, r.lt⟩ hb fr, by rw [e0]; exact slr_kp1 k w.r0 (dj 0 _ (by decide) rfl), by rw [e1]; exact slr_kp1 k w.r1 (dj 1 _ (by decide) rfl), by rw [e2]; exact slr_kp1 k w.r2 (dj 2 _ (by decide) rfl), by rw [e3]; exact slr_kp1 k w.r3 (dj 3 _ (by decide) rfl), by rw [e4]; exact slr_kp1 k w.r4 (dj 4 _ (by decide) rfl), by rw [e5]; exact slr_kp1 k w.r5 (dj 5 _ (by decide) rfl), by rw [e6]; exact slr_kp1 k w.r6 (dj 6 _ (by decide) rfl), by rw [e7]; exact slr_kp1 k w.r7 (dj 7 _ (by decide) rfl), by rw [e8]; exact slr_kp1 k w.r8 (dj 8 _ (by decide) rfl), r, by rw [e10]; exact slr_kp1 k w.r10 (dj 10 _ (by decide) rfl)⟩
theorem PW.put10 (w : PW n h b x V F) {x' : Wld} {v : AV} {f : List Nat} (bk : Bk h' b (x'.cv { V with v10 := v }) 0) (k : Kp h h' (b :: F.f10)) (r : SlRep h' v x'.deeds f) (o : Own n h' f) (hb : b ∉ f) (fr : ∀ c ∈ f, c ∈ F.f10 ∨ h.n ≤ c) (e0 : x'.c.rule.l = x.c.rule.l := by rfl) (e1 : x'.st = x.st := by rfl) (e2 : x'.cache = x.cache := by rfl) (e3 : x'.w.near = x.w.near := by rfl) (e4 : x'.w.far = x.w.far := by rfl) (e5 : x'.w.rest = x.w.rest := by rfl) (e6 : x'.due = x.due := by rfl) (e7 : x'.queue = x.queue := by rfl) (e8 : x'.out = x.out := by rfl) (e9 : x'.tasks = x.tasks := by rfl) : PW n h' b x' { V with v10 := v } { F with f10 := f } :=
  have dj : ∀ (j : Nat) (G : List Nat), j ≠ 10 → F.l[j]? = some G → ∀ c ∈ G, c ∉ b :: F.f10 := fun j G hj hG c hc hX => by
    rcases List.mem_cons.1 hX with e | e
    · subst e; exact (w.sep.own j G hG).2 hc
    · exact w.sep.dis j 10 G _ hj hG rfl c hc e
  ⟨bk, w.nb, w.sep.set (i := 10) rfl k ⟨o, r.lt⟩ hb fr, by rw [e0]; exact slr_kp1 k w.r0 (dj 0 _ (by decide) rfl), by rw [e1]; exact slr_kp1 k w.r1 (dj 1 _ (by decide) rfl), by rw [e2]; exact slr_kp1 k w.r2 (dj 2 _ (by decide) rfl), by rw [e3]; exact slr_kp1 k w.r3 (dj 3 _ (by decide) rfl), by rw [e4]; exact slr_kp1 k w.r4 (dj 4 _ (by decide) rfl), by rw [e5]; exact slr_kp1 k w.r5 (dj 5 _ (by decide) rfl), by rw [e6]; exact slr_kp1 k w.r6 (dj 6 _ (by decide) rfl), by rw [e7]; exact slr_kp1 k w.r7 (dj 7 _ (by decide) rfl), by rw [e8]; exact slr_kp1 k w.r8 (dj 8 _ (by decide) rfl), by rw [e9]; exact slr_kp1 k w.r9 (dj 9 _ (by decide) rfl), r⟩
end
section
variable {a b c : AH} {X G : List Nat}
theorem Kp.new (k : Kp a b X) (k' : Kp b c G) (hG : ∀ x ∈ G, a.n ≤ x) : Kp a c X := ⟨Nat.le_trans k.1 k'.1, fun x hx hX => (k'.2 x (Nat.lt_of_lt_of_le hx k.1) fun hg => by have := hG x hg; omega).trans (k.2 x hx hX)⟩
theorem Kp.updX (k : Kp a b X) {i : Nat} (hi : i ∈ X) (kk : Blk) : Kp a (b.upd i kk) X := ⟨k.1, fun x hx hX => by
  have : x ≠ i := fun e => hX (e ▸ hi)
  simp only [upd_get, this, if_false]; exact k.2 x hx hX⟩
theorem Kp.push (k : Kp a b X) (kk : Blk) : Kp a (b.push kk) X := ⟨Nat.le_trans k.1 (Nat.le_succ _), fun x hx hX => by
  have : x ≠ b.n := by have := k.1; omega
  simp only [push_get, this, if_false]; exact k.2 x hx hX⟩
end
section
variable {P : Program} {h : AH} {Q : Nat → List AV → AH → Prop} {p : Prog}
theorem g_chka {c : List AV} {v : AV} (x : (Prog.chk (.alloc c) v p).awp P h Q) : (Prog.chk (.alloc c) v p).awp P h Q := x
theorem g_chkm {es bytes : Nat} {z : List AV} {n c v : AV} (x : (Prog.chk (.mksl es bytes z n c) v p).awp P h Q) : (Prog.chk (.mksl es bytes z n c) v p).awp P h Q := x
theorem g_chkb {es n : Nat} {z : List AV} {ps : List (Nat × Nat × AV)} {v : AV} (x : (Prog.chk (.bslice es n z ps) v p).awp P h Q) : (Prog.chk (.bslice es n z ps) v p).awp P h Q := x
theorem w_chka {b : Nat} {c : List AV} (a : Bk h b c 0) (hk : p.awp P h Q) : (Prog.chk (.alloc c) (.ptr b 0) p).awp P h Q := by
  refine aw_chk ?_ hk
  simp only [AOp.still]
  exact ⟨by rw [a.2], by rw [a.2], by rw [a.2]⟩
theorem w_chkm {b es bytes n : Nat} {z : List AV} (a : Bk h b (List.replicate n z).flatten es) (hb : n * bytes ≤ 70368744177664) (hk : p.awp P h Q) : (Prog.chk (.mksl es bytes z (.int .i64 (n : Int)) (.int .i64 (n : Int))) (.sl b 0 n) p).awp P h Q := by
  refine aw_chk (?_ : 0 ≤ (n : Int) ∧ (n : Int) = (n : Int) ∧ (n : Int) * (bytes : Int) ≤ 70368744177664 ∧ n = (n : Int).toNat ∧ (h.get b).cells = (List.replicate (n : Int).toNat z).flatten ∧ (h.get b).es = es ∧ (h.get b).st = 0) hk
  refine ⟨by omega, rfl, ?_, rfl, by rw [a.2]; rfl, by rw [a.2], by rw [a.2]⟩
  have := Int.ofNat_le.2 hb
  rw [Int.natCast_mul] at this
  exact this
theorem w_chkb {b es n : Nat} {z cs : List AV} {ps : List (Nat × Nat × AV)} (a : Bk h b cs es) (hc : afill z ps = some cs) (h1 : n * es ≤ 16777216) (h2 : cs.length = n * es) (hk : p.awp P h Q) : (Prog.chk (.bslice es n z ps) (.sl b 0 n) p).awp P h Q := by
  refine aw_chk ?_ hk
  simp only [AOp.still, hc]
  exact ⟨trivial, h1, h2, by rw [a.2], by rw [a.2], by rw [a.2]⟩
end
section
variable {α : Type} [Cel α] {P : Program} {h h' : AH} {Q : Nat → List AV → AH → Prop} {k : AV → Prog} {p : Prog}
/-! ### Values whose cells are not told -/
theorem g_stv {n : Nat} {a x : AV} (y : (Prog.op (.st n a x) k).awp P h Q) : (Prog.op (.st n a x) k).awp P h Q := y
theorem g_ldv {n : Nat} {a : AV} (y : (Prog.op (.ldn n a) k).awp P h Q) : (Prog.op (.ldn n a) k).awp P h Q := y
theorem g_ckv {n : Nat} {a v : AV} (y : (Prog.chk (.ldn n a) v p).awp P h Q) : (Prog.chk (.ldn n a) v p).awp P h Q := y
theorem aw_stv {n : Nat} {zero cs : List AV} (hl : cs.length = n) (hz : zero.length = n) (hk : (k (.tup [])).awp P (h.push ⟨cs, 0, 0⟩) Q) : (Prog.op (.st n (.ptr h.n 0) (.agg cs)) k).awp P (h.push ⟨zero, 0, 0⟩) Q := by
  refine aw_st_0 rfl hl (by omega) ?_
  rw [splice_all (by omega)]; exact hk
theorem aw_ldv {n b : Nat} {cs : List AV} (a : Bk h b cs 0) (hl : cs.length = n) (h0 : 0 < n) (hk : (k (.agg cs)).awp P h Q) : (Prog.op (.ldn n (.ptr b 0)) k).awp P h Q :=
  aw_ldn_at (at_bk a) (Ext.refl _) h0 (List.take_of_length_le (by omega)) hl hk
theorem aw_ckv {n b : Nat} {cs : List AV} (a : Bk h b cs 0) (hl : cs.length = n) (h0 : 0 < n) (hk : p.awp P h Q) : (Prog.chk (.ldn n (.ptr b 0)) (.agg cs) p).awp P h Q := by
  refine aw_chk ?_ hk
  show live h b ∧ 0 + n ≤ (h.get b).cells.length ∧ ((AV.agg (((h.get b).cells.drop 0).take n)) = .agg cs ∧ h = h)
  refine ⟨by simp [live, a.2], by rw [a.2]; simp; omega, ?_, rfl⟩
  rw [a.2]; simp only [List.drop_zero]; rw [List.take_of_length_le (by omega)]
theorem rep_kp {x : α} {cs : List AV} {F X : List Nat} (k : Kp h h' X) (r : Cel.rep h x cs F) (d : ∀ c ∈ F, c ∉ X) : Cel.rep h' x cs F :=
  Cel.keep r fun c hc => ⟨k.2 c (Cel.lt r c hc) (d c hc), Nat.lt_of_lt_of_le (Cel.lt r c hc) k.1⟩
end
end Go.Ab
