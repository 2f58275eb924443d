/- The values of the program: its structs. Written by mkty.py. -/
import Derived.Test.YtjikmaajdpcnhaaAb30
set_option linter.unusedSimpArgs false
set_option linter.unusedVariables false
namespace Go.Ab
open Go.RowKit

/-! ### Rules -/
inductive Pol where
  | mk (kind n : Int) (key text : ByteArray) (l : List Pol)
namespace Pol
def kind : Pol → Int | .mk k _ _ _ _ => k
def n : Pol → Int | .mk _ n _ _ _ => n
def key : Pol → ByteArray | .mk _ _ k _ _ => k
def text : Pol → ByteArray | .mk _ _ _ t _ => t
def l : Pol → List Pol | .mk _ _ _ _ l => l
def cs (x : Pol) (v : AV) : List AV := [.int .i64 x.kind, .int .i64 x.n, .str x.key, .str x.text, v]
end Pol
mutual
def Pol.repP (h : AH) : Pol → List AV → List Nat → Prop
  | .mk k n s t l, cs, F => ∃ v, cs = [.int .i64 k, .int .i64 n, .str s, .str t, v] ∧ ShR h 5 v l.length (Pol.repsP h l) F
def Pol.repsP (h : AH) : List Pol → List AV → List Nat → Prop
  | [], cs, F => cs = [] ∧ F = []
  | p :: ps, cs, F => ∃ c1 c2 F1 F2, cs = c1 ++ c2 ∧ F = F1 ++ F2 ∧ Pol.repP h p c1 F1 ∧ Pol.repsP h ps c2 F2
end
mutual
def Pol.okP : Pol → Prop
  | .mk k n s t l => rng k ∧ rng n ∧ s.size ≤ maxLen ∧ t.size ≤ maxLen ∧ Pol.oksP l
def Pol.oksP : List Pol → Prop
  | [] => True
  | p :: ps => Pol.okP p ∧ Pol.oksP ps
end
theorem Pol.len_ {h : AH} : ∀ {x : Pol} {cs : List AV} {F : List Nat}, Pol.repP h x cs F → cs.length = 5
  | .mk k n s t l, cs, F, r => by unfold Pol.repP at r; obtain ⟨v, rfl, _⟩ := r; rfl
theorem ShR.lt {h : AH} {w n : Nat} {v : AV} {R : List AV → List Nat → Prop} {F : List Nat} (r : ShR h w v n R F) (hR : ∀ cs F, R cs F → ∀ b ∈ F, b < h.n) : ∀ b ∈ F, b < h.n := by
  rcases r with ⟨_, _, rfl⟩ | ⟨b, off, F', cs, _, rfl, h1, _, _, _, _, _, h2⟩
  · simp
  · intro x hx
    rcases List.mem_cons.1 hx with e | e
    · rw [e]; exact h1
    · exact hR _ _ h2 x e
theorem ShR.keep {h h' : AH} {w n : Nat} {v : AV} {R R' : List AV → List Nat → Prop} {F : List Nat} (r : ShR h w v n R F) (k : ∀ b ∈ F, h'.get b = h.get b ∧ b < h'.n) (hR : ∀ cs F', (∀ b ∈ F', b ∈ F) → R cs F' → R' cs F') : ShR h' w v n R' F := by
  rcases r with g | ⟨b, off, F', cs, e1, rfl, h1, h2, h3, h4, h5, h6, h7⟩
  · exact .inl g
  · have kb := k b (by simp)
    refine .inr ⟨b, off, F', cs, e1, rfl, kb.2, ?_, ?_, ?_, h5, ?_, hR _ _ (fun x hx => by simp [hx]) h7⟩
    · unfold live; rw [kb.1]; exact h2
    · rw [kb.1]; exact h3
    · rw [kb.1]; exact h4
    · rw [kb.1]; exact h6
mutual
theorem Pol.lt_ {h : AH} : ∀ (x : Pol) (cs : List AV) (F : List Nat), Pol.repP h x cs F → ∀ b ∈ F, b < h.n
  | .mk k n s t l, cs, F, r => by
    unfold Pol.repP at r; obtain ⟨v, rfl, r⟩ := r
    exact r.lt (Pol.lts_ l)
theorem Pol.lts_ {h : AH} : ∀ (x : List Pol) (cs : List AV) (F : List Nat), Pol.repsP h x cs F → ∀ b ∈ F, b < h.n
  | [], cs, F, r => by unfold Pol.repsP at r; obtain ⟨_, rfl⟩ := r; simp
  | p :: ps, cs, F, r => by
    unfold Pol.repsP at r
    obtain ⟨c1, c2, F1, F2, rfl, rfl, r1, r2⟩ := r
    intro b hb
    rcases List.mem_append.1 hb with hb | hb
    · exact Pol.lt_ p c1 F1 r1 b hb
    · exact Pol.lts_ ps c2 F2 r2 b hb
end
mutual
theorem Pol.keep_ {h h' : AH} : ∀ (x : Pol) (cs : List AV) (F : List Nat), Pol.repP h x cs F → (∀ b ∈ F, h'.get b = h.get b ∧ b < h'.n) → Pol.repP h' x cs F
  | .mk k n s t l, cs, F, r, hk => by
    unfold Pol.repP at r ⊢; obtain ⟨v, rfl, r⟩ := r
    exact ⟨v, rfl, r.keep hk fun cs F' hs r => Pol.keeps_ l cs F' r fun b hb => hk b (hs b hb)⟩
theorem Pol.keeps_ {h h' : AH} : ∀ (x : List Pol) (cs : List AV) (F : List Nat), Pol.repsP h x cs F → (∀ b ∈ F, h'.get b = h.get b ∧ b < h'.n) → Pol.repsP h' x cs F
  | [], cs, F, r, hk => by unfold Pol.repsP at r ⊢; exact r
  | p :: ps, cs, F, r, hk => by
    unfold Pol.repsP at r ⊢
    obtain ⟨c1, c2, F1, F2, rfl, rfl, r1, r2⟩ := r
    exact ⟨c1, c2, F1, F2, rfl, rfl, Pol.keep_ p c1 F1 r1 fun b hb => hk b (List.mem_append_left _ hb), Pol.keeps_ ps c2 F2 r2 fun b hb => hk b (List.mem_append_right _ hb)⟩
end
instance : Cel Pol where
  w := 5
  ok := Pol.okP
  rep := Pol.repP
  pos := by decide
  len := fun r => Pol.len_ r
  lt := fun r => Pol.lt_ _ _ _ r
  keep := fun r k => Pol.keep_ _ _ _ r k
theorem Pol.reps_iff {h : AH} : ∀ {l : List Pol} {cs : List AV} {F : List Nat}, Reps h l cs F ↔ Pol.repsP h l cs F
  | [], cs, F => by simp [Reps, Pol.repsP]
  | p :: ps, cs, F => by
    simp only [Reps, Pol.repsP]
    constructor
    · rintro ⟨c1, c2, F1, F2, e1, e2, r1, r2⟩; exact ⟨c1, c2, F1, F2, e1, e2, r1, Pol.reps_iff.1 r2⟩
    · rintro ⟨c1, c2, F1, F2, e1, e2, r1, r2⟩; exact ⟨c1, c2, F1, F2, e1, e2, r1, Pol.reps_iff.2 r2⟩
theorem Pol.rep_iff {h : AH} {x : Pol} {cs : List AV} {F : List Nat} : Cel.rep h x cs F ↔ ∃ v, cs = x.cs v ∧ SlRep h v x.l F := by
  cases x with
  | mk k n s t l =>
    have e : Reps h l = Pol.repsP h l := by funext cs F; exact propext Pol.reps_iff
    show Pol.repP h (.mk k n s t l) cs F ↔ ∃ v, cs = (Pol.mk k n s t l).cs v ∧ ShR h 5 v l.length (Reps h l) F
    rw [e]
    unfold Pol.repP
    rfl
theorem Pol.oks_iff : ∀ {l : List Pol}, Pol.oksP l ↔ ∀ x ∈ l, Cel.ok x
  | [] => by simp [Pol.oksP]
  | p :: ps => by
    simp only [Pol.oksP, List.mem_cons, forall_eq_or_imp]
    exact and_congr Iff.rfl Pol.oks_iff
theorem mk_Pol {h : AH} {a b : Int} {c d : ByteArray} {v : AV} {l : List Pol} {F : List Nat} (ka : Cel.ok a) (kb : Cel.ok b) (kc : Cel.ok c) (kd : Cel.ok d) (r : SlRep h v l F) (kl : Cel.ok l) : ∃ x : Pol, Cel.rep h x ([.int .i64 a] ++ ([.int .i64 b] ++ ([.str c] ++ ([.str d] ++ ([v] ++ []))))) ([] ++ ([] ++ ([] ++ ([] ++ (F ++ []))))) ∧ Cel.ok x :=
  ⟨.mk a b c d l, Pol.rep_iff.2 ⟨v, rfl, by simpa [Pol.l] using r⟩, ka, kb, kc, kd, Pol.oks_iff.2 kl⟩

/-! ### Attr -/
structure Attr where
  key : ByteArray
  num : Bool
  n : Int
  text : ByteArray
def Attr.cs (x : Attr) : List AV := [.str x.key, .bool x.num, .int .i64 x.n, .str x.text]
instance : Cel Attr where
  w := 4
  ok := fun x => Cel.ok x.key ∧ Cel.ok x.n ∧ Cel.ok x.text
  rep := fun h x cs F => cs = x.cs ∧ F = []
  pos := by decide
  len := by rintro h x cs F ⟨rfl, rfl⟩; rfl
  lt := by rintro h x cs F ⟨rfl, rfl⟩; simp
  keep := by rintro h h' x cs F r _; exact r
instance : Flat Attr where
  toCel := inferInstance
  enc := Attr.cs
  rep_iff := Iff.rfl
theorem mk_Attr {h : AH} {a0 : ByteArray} {a1 : Bool} {a2 : Int} {a3 : ByteArray} (k0 : Cel.ok a0) (k1 : Cel.ok a1) (k2 : Cel.ok a2) (k3 : Cel.ok a3) : ∃ x : Attr, Cel.rep h x ([.str a0] ++ ([.bool a1] ++ ([.int .i64 a2] ++ ([.str a3] ++ [])))) ([] ++ ([] ++ ([] ++ ([] ++ [])))) ∧ Cel.ok x := by
  exact ⟨⟨a0, a1, a2, a3⟩, ⟨rfl, rfl⟩, ⟨k0, k2, k3⟩⟩

/-! ### Span -/
structure Span where
  trace : Int
  id : Int
  start : Int
  fin : Int
  err : Bool
  attrs : List Attr
def Span.cs (x : Span) (v0 : AV) : List AV := [.int .i64 x.trace, .int .i64 x.id, .int .i64 x.start, .int .i64 x.fin, .bool x.err, v0]
instance : Cel Span where
  w := 6
  ok := fun x => Cel.ok x.trace ∧ Cel.ok x.id ∧ Cel.ok x.start ∧ Cel.ok x.fin ∧ Cel.ok x.attrs
  rep := fun h x cs F => ∃ v, cs = x.cs v ∧ SlRep h v x.attrs F
  pos := by decide
  len := by rintro h x cs F ⟨v, rfl, _⟩; rfl
  lt := by rintro h x cs F ⟨v, rfl, r⟩; exact r.lt
  keep := by rintro h h' x cs F ⟨v, rfl, r⟩ k; exact ⟨v, rfl, r.keep k⟩
theorem mk_Span {h : AH} {a0 : Int} {a1 : Int} {a2 : Int} {a3 : Int} {a4 : Bool} {a5 : List Attr} {v5 : AV} {F5 : List Nat} (k0 : Cel.ok a0) (k1 : Cel.ok a1) (k2 : Cel.ok a2) (k3 : Cel.ok a3) (k4 : Cel.ok a4) (r5 : SlRep h v5 a5 F5) (k5 : Cel.ok a5) : ∃ x : Span, Cel.rep h x ([.int .i64 a0] ++ ([.int .i64 a1] ++ ([.int .i64 a2] ++ ([.int .i64 a3] ++ ([.bool a4] ++ ([v5] ++ [])))))) ([] ++ ([] ++ ([] ++ ([] ++ ([] ++ (F5 ++ [])))))) ∧ Cel.ok x := by
  exact ⟨⟨a0, a1, a2, a3, a4, a5⟩, ⟨v5, rfl, by simpa using r5⟩, ⟨k0, k1, k2, k3, k5⟩⟩

/-! ### Bucket -/
structure Bucket where
  rate : Int
  burst : Int
  tokens : Int
  at_ : Int
def Bucket.cs (x : Bucket) : List AV := [.int .i64 x.rate, .int .i64 x.burst, .int .i64 x.tokens, .int .i64 x.at_]
instance : Cel Bucket where
  w := 4
  ok := fun x => Cel.ok x.rate ∧ Cel.ok x.burst ∧ Cel.ok x.tokens ∧ Cel.ok x.at_
  rep := fun h x cs F => cs = x.cs ∧ F = []
  pos := by decide
  len := by rintro h x cs F ⟨rfl, rfl⟩; rfl
  lt := by rintro h x cs F ⟨rfl, rfl⟩; simp
  keep := by rintro h h' x cs F r _; exact r
instance : Flat Bucket where
  toCel := inferInstance
  enc := Bucket.cs
  rep_iff := Iff.rfl
theorem mk_Bucket {h : AH} {a0 : Int} {a1 : Int} {a2 : Int} {a3 : Int} (k0 : Cel.ok a0) (k1 : Cel.ok a1) (k2 : Cel.ok a2) (k3 : Cel.ok a3) : ∃ x : Bucket, Cel.rep h x ([.int .i64 a0] ++ ([.int .i64 a1] ++ ([.int .i64 a2] ++ ([.int .i64 a3] ++ [])))) ([] ++ ([] ++ ([] ++ ([] ++ [])))) ∧ Cel.ok x := by
  exact ⟨⟨a0, a1, a2, a3⟩, ⟨rfl, rfl⟩, ⟨k0, k1, k2, k3⟩⟩

/-! ### Timer -/
structure Timer where
  id : Int
  trace : Int
  at_ : Int
def Timer.cs (x : Timer) : List AV := [.int .i64 x.id, .int .i64 x.trace, .int .i64 x.at_]
instance : Cel Timer where
  w := 3
  ok := fun x => Cel.ok x.id ∧ Cel.ok x.trace ∧ Cel.ok x.at_
  rep := fun h x cs F => cs = x.cs ∧ F = []
  pos := by decide
  len := by rintro h x cs F ⟨rfl, rfl⟩; rfl
  lt := by rintro h x cs F ⟨rfl, rfl⟩; simp
  keep := by rintro h h' x cs F r _; exact r
instance : Flat Timer where
  toCel := inferInstance
  enc := Timer.cs
  rep_iff := Iff.rfl
theorem mk_Timer {h : AH} {a0 : Int} {a1 : Int} {a2 : Int} (k0 : Cel.ok a0) (k1 : Cel.ok a1) (k2 : Cel.ok a2) : ∃ x : Timer, Cel.rep h x ([.int .i64 a0] ++ ([.int .i64 a1] ++ ([.int .i64 a2] ++ []))) ([] ++ ([] ++ ([] ++ []))) ∧ Cel.ok x := by
  exact ⟨⟨a0, a1, a2⟩, ⟨rfl, rfl⟩, ⟨k0, k1, k2⟩⟩

/-! ### Wheel -/
structure Wheel where
  now : Int
  near : List (List Timer)
  far : List (List Timer)
  rest : List Timer
def Wheel.cs (x : Wheel) (v0 v1 v2 : AV) : List AV := [.int .i64 x.now, v0, v1, v2]
instance : Cel Wheel where
  w := 4
  ok := fun x => Cel.ok x.now ∧ Cel.ok x.near ∧ Cel.ok x.far ∧ Cel.ok x.rest
  rep := fun h x cs F => ∃ v0 v1 v2 F0 F1 F2, cs = x.cs v0 v1 v2 ∧ F = F0 ++ (F1 ++ (F2)) ∧ SlRep h v0 x.near F0 ∧ SlRep h v1 x.far F1 ∧ SlRep h v2 x.rest F2
  pos := by decide
  len := by rintro h x cs F ⟨v0, v1, v2, F0, F1, F2, rfl, rfl, r0, r1, r2⟩; rfl
  lt := by rintro h x cs F ⟨v0, v1, v2, F0, F1, F2, rfl, rfl, r0, r1, r2⟩; intro b hb; rcases List.mem_append.1 hb with hb | hb; exact r0.lt b hb; rcases List.mem_append.1 hb with hb | hb; exact r1.lt b hb; exact r2.lt b hb
  keep := by rintro h h' x cs F ⟨v0, v1, v2, F0, F1, F2, rfl, rfl, r0, r1, r2⟩ k; exact ⟨_, _, _, _, _, _, rfl, rfl, r0.keep fun b hb => k b (List.mem_append_left _ hb), r1.keep fun b hb => k b (List.mem_append_right _ (List.mem_append_left _ hb)), r2.keep fun b hb => k b (List.mem_append_right _ (List.mem_append_right _ (hb)))⟩
theorem mk_Wheel {h : AH} {a0 : Int} {a1 : List (List Timer)} {v1 : AV} {F1 : List Nat} {a2 : List (List Timer)} {v2 : AV} {F2 : List Nat} {a3 : List Timer} {v3 : AV} {F3 : List Nat} (k0 : Cel.ok a0) (r1 : SlRep h v1 a1 F1) (k1 : Cel.ok a1) (r2 : SlRep h v2 a2 F2) (k2 : Cel.ok a2) (r3 : SlRep h v3 a3 F3) (k3 : Cel.ok a3) : ∃ x : Wheel, Cel.rep h x ([.int .i64 a0] ++ ([v1] ++ ([v2] ++ ([v3] ++ [])))) ([] ++ (F1 ++ (F2 ++ (F3 ++ [])))) ∧ Cel.ok x := by
  exact ⟨⟨a0, a1, a2, a3⟩, ⟨v1, v2, v3, F1, F2, F3, rfl, by simp, r1, r2, r3⟩, ⟨k0, k1, k2, k3⟩⟩

/-! ### Trail -/
structure Trail where
  id : Int
  stamp : Int
  first : Int
  spans : List Span
def Trail.cs (x : Trail) (v0 : AV) : List AV := [.int .i64 x.id, .int .i64 x.stamp, .int .i64 x.first, v0]
instance : Cel Trail where
  w := 4
  ok := fun x => Cel.ok x.id ∧ Cel.ok x.stamp ∧ Cel.ok x.first ∧ Cel.ok x.spans
  rep := fun h x cs F => ∃ v, cs = x.cs v ∧ SlRep h v x.spans F
  pos := by decide
  len := by rintro h x cs F ⟨v, rfl, _⟩; rfl
  lt := by rintro h x cs F ⟨v, rfl, r⟩; exact r.lt
  keep := by rintro h h' x cs F ⟨v, rfl, r⟩ k; exact ⟨v, rfl, r.keep k⟩
theorem mk_Trail {h : AH} {a0 : Int} {a1 : Int} {a2 : Int} {a3 : List Span} {v3 : AV} {F3 : List Nat} (k0 : Cel.ok a0) (k1 : Cel.ok a1) (k2 : Cel.ok a2) (r3 : SlRep h v3 a3 F3) (k3 : Cel.ok a3) : ∃ x : Trail, Cel.rep h x ([.int .i64 a0] ++ ([.int .i64 a1] ++ ([.int .i64 a2] ++ ([v3] ++ [])))) ([] ++ ([] ++ ([] ++ (F3 ++ [])))) ∧ Cel.ok x := by
  exact ⟨⟨a0, a1, a2, a3⟩, ⟨v3, rfl, by simpa using r3⟩, ⟨k0, k1, k2, k3⟩⟩

/-! ### Stripe -/
structure Stripe where
  held : Int
  l : List Trail
def Stripe.cs (x : Stripe) (v0 : AV) : List AV := [.int .i64 x.held, v0]
instance : Cel Stripe where
  w := 2
  ok := fun x => Cel.ok x.held ∧ Cel.ok x.l
  rep := fun h x cs F => ∃ v, cs = x.cs v ∧ SlRep h v x.l F
  pos := by decide
  len := by rintro h x cs F ⟨v, rfl, _⟩; rfl
  lt := by rintro h x cs F ⟨v, rfl, r⟩; exact r.lt
  keep := by rintro h h' x cs F ⟨v, rfl, r⟩ k; exact ⟨v, rfl, r.keep k⟩
theorem mk_Stripe {h : AH} {a0 : Int} {a1 : List Trail} {v1 : AV} {F1 : List Nat} (k0 : Cel.ok a0) (r1 : SlRep h v1 a1 F1) (k1 : Cel.ok a1) : ∃ x : Stripe, Cel.rep h x ([.int .i64 a0] ++ ([v1] ++ [])) ([] ++ (F1 ++ [])) ∧ Cel.ok x := by
  exact ⟨⟨a0, a1⟩, ⟨v1, rfl, by simpa using r1⟩, ⟨k0, k1⟩⟩

/-! ### Conf -/
structure Conf where
  stripes : Int
  wait : Int
  budget : Int
  cache : Int
  queue : Int
  rate : Int
  burst : Int
  rule : Pol
def Conf.cs (x : Conf) (v0 : AV) : List AV := [.int .i64 x.stripes, .int .i64 x.wait, .int .i64 x.budget, .int .i64 x.cache, .int .i64 x.queue, .int .i64 x.rate, .int .i64 x.burst, .int .i64 x.rule.kind, .int .i64 x.rule.n, .str x.rule.key, .str x.rule.text, v0]
instance : Cel Conf where
  w := 12
  ok := fun x => Cel.ok x.stripes ∧ Cel.ok x.wait ∧ Cel.ok x.budget ∧ Cel.ok x.cache ∧ Cel.ok x.queue ∧ Cel.ok x.rate ∧ Cel.ok x.burst ∧ Cel.ok x.rule
  rep := fun h x cs F => ∃ v, cs = x.cs v ∧ SlRep h v x.rule.l F
  pos := by decide
  len := by rintro h x cs F ⟨v, rfl, _⟩; rfl
  lt := by rintro h x cs F ⟨v, rfl, r⟩; exact r.lt
  keep := by rintro h h' x cs F ⟨v, rfl, r⟩ k; exact ⟨v, rfl, r.keep k⟩
theorem mk_Conf {h : AH} {a0 : Int} {a1 : Int} {a2 : Int} {a3 : Int} {a4 : Int} {a5 : Int} {a6 : Int} {a7 : Pol} {c7 : List AV} {F7 : List Nat} (k0 : Cel.ok a0) (k1 : Cel.ok a1) (k2 : Cel.ok a2) (k3 : Cel.ok a3) (k4 : Cel.ok a4) (k5 : Cel.ok a5) (k6 : Cel.ok a6) (r7 : Cel.rep h a7 c7 F7) (k7 : Cel.ok a7) : ∃ x : Conf, Cel.rep h x ([.int .i64 a0] ++ ([.int .i64 a1] ++ ([.int .i64 a2] ++ ([.int .i64 a3] ++ ([.int .i64 a4] ++ ([.int .i64 a5] ++ ([.int .i64 a6] ++ (c7 ++ [])))))))) ([] ++ ([] ++ ([] ++ ([] ++ ([] ++ ([] ++ ([] ++ (F7 ++ [])))))))) ∧ Cel.ok x := by
  obtain ⟨w7, rfl, q7⟩ := Pol.rep_iff.1 r7
  exact ⟨⟨a0, a1, a2, a3, a4, a5, a6, a7⟩, ⟨w7, rfl, by simpa using q7⟩, ⟨k0, k1, k2, k3, k4, k5, k6, k7⟩⟩

/-! ### Itm -/
structure Itm where
  stamp : Int
  s : Span
def Itm.cs (x : Itm) (v0 : AV) : List AV := [.int .i64 x.stamp, .int .i64 x.s.trace, .int .i64 x.s.id, .int .i64 x.s.start, .int .i64 x.s.fin, .bool x.s.err, v0]
instance : Cel Itm where
  w := 7
  ok := fun x => Cel.ok x.stamp ∧ Cel.ok x.s
  rep := fun h x cs F => ∃ v, cs = x.cs v ∧ SlRep h v x.s.attrs F
  pos := by decide
  len := by rintro h x cs F ⟨v, rfl, _⟩; rfl
  lt := by rintro h x cs F ⟨v, rfl, r⟩; exact r.lt
  keep := by rintro h h' x cs F ⟨v, rfl, r⟩ k; exact ⟨v, rfl, r.keep k⟩
theorem mk_Itm {h : AH} {a0 : Int} {a1 : Span} {c1 : List AV} {F1 : List Nat} (k0 : Cel.ok a0) (r1 : Cel.rep h a1 c1 F1) (k1 : Cel.ok a1) : ∃ x : Itm, Cel.rep h x ([.int .i64 a0] ++ (c1 ++ [])) ([] ++ (F1 ++ [])) ∧ Cel.ok x := by
  obtain ⟨w1, rfl, q1⟩ := r1
  exact ⟨⟨a0, a1⟩, ⟨w1, rfl, by simpa using q1⟩, ⟨k0, k1⟩⟩

/-! ### Task -/
structure Task where
  op : Int
  pc : Int
  s : Span
  trace : Int
  stamp : Int
  hand : List Itm
  h : Int
def Task.cs (x : Task) (v0 v1 : AV) : List AV := [.int .i64 x.op, .int .i64 x.pc, .int .i64 x.s.trace, .int .i64 x.s.id, .int .i64 x.s.start, .int .i64 x.s.fin, .bool x.s.err, v0, .int .i64 x.trace, .int .i64 x.stamp, v1, .int .i64 x.h]
instance : Cel Task where
  w := 12
  ok := fun x => Cel.ok x.op ∧ Cel.ok x.pc ∧ Cel.ok x.s ∧ Cel.ok x.trace ∧ Cel.ok x.stamp ∧ Cel.ok x.hand ∧ Cel.ok x.h
  rep := fun h x cs F => ∃ v0 v1 F0 F1, cs = x.cs v0 v1 ∧ F = F0 ++ (F1) ∧ SlRep h v0 x.s.attrs F0 ∧ SlRep h v1 x.hand F1
  pos := by decide
  len := by rintro h x cs F ⟨v0, v1, F0, F1, rfl, rfl, r0, r1⟩; rfl
  lt := by rintro h x cs F ⟨v0, v1, F0, F1, rfl, rfl, r0, r1⟩; intro b hb; rcases List.mem_append.1 hb with hb | hb; exact r0.lt b hb; exact r1.lt b hb
  keep := by rintro h h' x cs F ⟨v0, v1, F0, F1, rfl, rfl, r0, r1⟩ k; exact ⟨_, _, _, _, rfl, rfl, r0.keep fun b hb => k b (List.mem_append_left _ hb), r1.keep fun b hb => k b (List.mem_append_right _ (hb))⟩
theorem mk_Task {h : AH} {a0 : Int} {a1 : Int} {a2 : Span} {c2 : List AV} {F2 : List Nat} {a3 : Int} {a4 : Int} {a5 : List Itm} {v5 : AV} {F5 : List Nat} {a6 : Int} (k0 : Cel.ok a0) (k1 : Cel.ok a1) (r2 : Cel.rep h a2 c2 F2) (k2 : Cel.ok a2) (k3 : Cel.ok a3) (k4 : Cel.ok a4) (r5 : SlRep h v5 a5 F5) (k5 : Cel.ok a5) (k6 : Cel.ok a6) : ∃ x : Task, Cel.rep h x ([.int .i64 a0] ++ ([.int .i64 a1] ++ (c2 ++ ([.int .i64 a3] ++ ([.int .i64 a4] ++ ([v5] ++ ([.int .i64 a6] ++ []))))))) ([] ++ ([] ++ (F2 ++ ([] ++ ([] ++ (F5 ++ ([] ++ []))))))) ∧ Cel.ok x := by
  obtain ⟨w2, rfl, q2⟩ := r2
  exact ⟨⟨a0, a1, a2, a3, a4, a5, a6⟩, ⟨w2, v5, F2, F5, rfl, by simp, q2, r5⟩, ⟨k0, k1, k2, k3, k4, k5, k6⟩⟩

/-! ### Deed -/
structure Deed where
  op : Int
  task : Int
  s : Span
  trace : Int
  stamp : Int
  code : Int
  keep : Bool
  void : Bool
  took : Int
  n : Int
  forgot : Int
  now : Int
  inv : Int
  lin : Int
  res : Int
def Deed.cs (x : Deed) (v0 : AV) : List AV := [.int .i64 x.op, .int .i64 x.task, .int .i64 x.s.trace, .int .i64 x.s.id, .int .i64 x.s.start, .int .i64 x.s.fin, .bool x.s.err, v0, .int .i64 x.trace, .int .i64 x.stamp, .int .i64 x.code, .bool x.keep, .bool x.void, .int .i64 x.took, .int .i64 x.n, .int .i64 x.forgot, .int .i64 x.now, .int .i64 x.inv, .int .i64 x.lin, .int .i64 x.res]
instance : Cel Deed where
  w := 20
  ok := fun x => Cel.ok x.op ∧ Cel.ok x.task ∧ Cel.ok x.s ∧ Cel.ok x.trace ∧ Cel.ok x.stamp ∧ Cel.ok x.code ∧ Cel.ok x.took ∧ Cel.ok x.n ∧ Cel.ok x.forgot ∧ Cel.ok x.now ∧ Cel.ok x.inv ∧ Cel.ok x.lin ∧ Cel.ok x.res
  rep := fun h x cs F => ∃ v, cs = x.cs v ∧ SlRep h v x.s.attrs F
  pos := by decide
  len := by rintro h x cs F ⟨v, rfl, _⟩; rfl
  lt := by rintro h x cs F ⟨v, rfl, r⟩; exact r.lt
  keep := by rintro h h' x cs F ⟨v, rfl, r⟩ k; exact ⟨v, rfl, r.keep k⟩
theorem mk_Deed {h : AH} {a0 : Int} {a1 : Int} {a2 : Span} {c2 : List AV} {F2 : List Nat} {a3 : Int} {a4 : Int} {a5 : Int} {a6 : Bool} {a7 : Bool} {a8 : Int} {a9 : Int} {a10 : Int} {a11 : Int} {a12 : Int} {a13 : Int} {a14 : Int} (k0 : Cel.ok a0) (k1 : Cel.ok a1) (r2 : Cel.rep h a2 c2 F2) (k2 : Cel.ok a2) (k3 : Cel.ok a3) (k4 : Cel.ok a4) (k5 : Cel.ok a5) (k6 : Cel.ok a6) (k7 : Cel.ok a7) (k8 : Cel.ok a8) (k9 : Cel.ok a9) (k10 : Cel.ok a10) (k11 : Cel.ok a11) (k12 : Cel.ok a12) (k13 : Cel.ok a13) (k14 : Cel.ok a14) : ∃ x : Deed, Cel.rep h x ([.int .i64 a0] ++ ([.int .i64 a1] ++ (c2 ++ ([.int .i64 a3] ++ ([.int .i64 a4] ++ ([.int .i64 a5] ++ ([.bool a6] ++ ([.bool a7] ++ ([.int .i64 a8] ++ ([.int .i64 a9] ++ ([.int .i64 a10] ++ ([.int .i64 a11] ++ ([.int .i64 a12] ++ ([.int .i64 a13] ++ ([.int .i64 a14] ++ []))))))))))))))) ([] ++ ([] ++ (F2 ++ ([] ++ ([] ++ ([] ++ ([] ++ ([] ++ ([] ++ ([] ++ ([] ++ ([] ++ ([] ++ ([] ++ ([] ++ []))))))))))))))) ∧ Cel.ok x := by
  obtain ⟨w2, rfl, q2⟩ := r2
  exact ⟨⟨a0, a1, a2, a3, a4, a5, a6, a7, a8, a9, a10, a11, a12, a13, a14⟩, ⟨w2, rfl, by simpa using q2⟩, ⟨k0, k1, k2, k3, k4, k5, k8, k9, k10, k11, k12, k13, k14⟩⟩

/-! ### Wld -/
structure Wld where
  c : Conf
  time : Int
  shut : Bool
  st : List Stripe
  ruleHeld : Int
  b : Bucket
  cache : List Verdict
  used : Int
  w : Wheel
  due : List Timer
  queue : List Itm
  out : List Itm
  tasks : List Task
  deeds : List Deed
  next : Int
def Wld.cs (x : Wld) (v0 v1 v2 v3 v4 v5 v6 v7 v8 v9 v10 : AV) : List AV := [.int .i64 x.c.stripes, .int .i64 x.c.wait, .int .i64 x.c.budget, .int .i64 x.c.cache, .int .i64 x.c.queue, .int .i64 x.c.rate, .int .i64 x.c.burst, .int .i64 x.c.rule.kind, .int .i64 x.c.rule.n, .str x.c.rule.key, .str x.c.rule.text, v0, .int .i64 x.time, .bool x.shut, v1, .int .i64 x.ruleHeld, .int .i64 x.b.rate, .int .i64 x.b.burst, .int .i64 x.b.tokens, .int .i64 x.b.at_, v2, .int .i64 x.used, .int .i64 x.w.now, v3, v4, v5, v6, v7, v8, v9, v10, .int .i64 x.next]
instance : Cel Wld where
  w := 32
  ok := fun x => Cel.ok x.c ∧ Cel.ok x.time ∧ Cel.ok x.st ∧ Cel.ok x.ruleHeld ∧ Cel.ok x.b ∧ Cel.ok x.cache ∧ Cel.ok x.used ∧ Cel.ok x.w ∧ Cel.ok x.due ∧ Cel.ok x.queue ∧ Cel.ok x.out ∧ Cel.ok x.tasks ∧ Cel.ok x.deeds ∧ Cel.ok x.next
  rep := fun h x cs F => ∃ v0 v1 v2 v3 v4 v5 v6 v7 v8 v9 v10 F0 F1 F2 F3 F4 F5 F6 F7 F8 F9 F10, cs = x.cs v0 v1 v2 v3 v4 v5 v6 v7 v8 v9 v10 ∧ F = F0 ++ (F1 ++ (F2 ++ (F3 ++ (F4 ++ (F5 ++ (F6 ++ (F7 ++ (F8 ++ (F9 ++ (F10)))))))))) ∧ SlRep h v0 x.c.rule.l F0 ∧ SlRep h v1 x.st F1 ∧ SlRep h v2 x.cache F2 ∧ SlRep h v3 x.w.near F3 ∧ SlRep h v4 x.w.far F4 ∧ SlRep h v5 x.w.rest F5 ∧ SlRep h v6 x.due F6 ∧ SlRep h v7 x.queue F7 ∧ SlRep h v8 x.out F8 ∧ SlRep h v9 x.tasks F9 ∧ SlRep h v10 x.deeds F10
  pos := by decide
  len := by rintro h x cs F ⟨v0, v1, v2, v3, v4, v5, v6, v7, v8, v9, v10, F0, F1, F2, F3, F4, F5, F6, F7, F8, F9, F10, rfl, rfl, r0, r1, r2, r3, r4, r5, r6, r7, r8, r9, r10⟩; rfl
  lt := by rintro h x cs F ⟨v0, v1, v2, v3, v4, v5, v6, v7, v8, v9, v10, F0, F1, F2, F3, F4, F5, F6, F7, F8, F9, F10, rfl, rfl, r0, r1, r2, r3, r4, r5, r6, r7, r8, r9, r10⟩; intro b hb; rcases List.mem_append.1 hb with hb | hb; exact r0.lt b hb; rcases List.mem_append.1 hb with hb | hb; exact r1.lt b hb; rcases List.mem_append.1 hb with hb | hb; exact r2.lt b hb; rcases List.mem_append.1 hb with hb | hb; exact r3.lt b hb; rcases List.mem_append.1 hb with hb | hb; exact r4.lt b hb; rcases List.mem_append.1 hb with hb | hb; exact r5.lt b hb; rcases List.mem_append.1 hb with hb | hb; exact r6.lt b hb; rcases List.mem_append.1 hb with hb | hb; exact r7.lt b hb; rcases List.mem_append.1 hb with hb | hb; exact r8.lt b hb; rcases List.mem_append.1 hb with hb | hb; exact r9.lt b hb; exact r10.lt b hb
  keep := by rintro h h' x cs F ⟨v0, v1, v2, v3, v4, v5, v6, v7, v8, v9, v10, F0, F1, F2, F3, F4, F5, F6, F7, F8, F9, F10, rfl, rfl, r0, r1, r2, r3, r4, r5, r6, r7, r8, r9, r10⟩ k; exact ⟨_, _, _, _, _, _, _, _, _, _, _, _, _, _, _, _, _, _, _, _, _, _, rfl, rfl, r0.keep fun b hb => k b (List.mem_append_left _ hb), r1.keep fun b hb => k b (List.mem_append_right _ (List.mem_append_left _ hb)), r2.keep fun b hb => k b (List.mem_append_right _ (List.mem_append_right _ (List.mem_append_left _ hb))), r3.keep fun b hb => k b (List.mem_append_right _ (List.mem_append_right _ (List.mem_append_right _ (List.mem_append_left _ hb)))), r4.keep fun b hb => k b (List.mem_append_right _ (List.mem_append_right _ (List.mem_append_right _ (List.mem_append_right _ (List.mem_append_left _ hb))))), r5.keep fun b hb => k b (List.mem_append_right _ (List.mem_append_right _ (List.mem_append_right _ (List.mem_append_right _ (List.mem_append_right _ (List.mem_append_left _ hb)))))), r6.keep fun b hb => k b (List.mem_append_right _ (List.mem_append_right _ (List.mem_append_right _ (List.mem_append_right _ (List.mem_append_right _ (List.mem_append_right _ (List.mem_append_left _ hb))))))), r7.keep fun b hb => k b (List.mem_append_right _ (List.mem_append_right _ (List.mem_append_right _ (List.mem_append_right _ (List.mem_append_right _ (List.mem_append_right _ (List.mem_append_right _ (List.mem_append_left _ hb)))))))), r8.keep fun b hb => k b (List.mem_append_right _ (List.mem_append_right _ (List.mem_append_right _ (List.mem_append_right _ (List.mem_append_right _ (List.mem_append_right _ (List.mem_append_right _ (List.mem_append_right _ (List.mem_append_left _ hb))))))))), r9.keep fun b hb => k b (List.mem_append_right _ (List.mem_append_right _ (List.mem_append_right _ (List.mem_append_right _ (List.mem_append_right _ (List.mem_append_right _ (List.mem_append_right _ (List.mem_append_right _ (List.mem_append_right _ (List.mem_append_left _ hb)))))))))), r10.keep fun b hb => k b (List.mem_append_right _ (List.mem_append_right _ (List.mem_append_right _ (List.mem_append_right _ (List.mem_append_right _ (List.mem_append_right _ (List.mem_append_right _ (List.mem_append_right _ (List.mem_append_right _ (List.mem_append_right _ (hb)))))))))))⟩
theorem mk_Wld {h : AH} {a0 : Conf} {c0 : List AV} {F0 : List Nat} {a1 : Int} {a2 : Bool} {a3 : List Stripe} {v3 : AV} {F3 : List Nat} {a4 : Int} {a5 : Bucket} {c5 : List AV} {F5 : List Nat} {a6 : List Verdict} {v6 : AV} {F6 : List Nat} {a7 : Int} {a8 : Wheel} {c8 : List AV} {F8 : List Nat} {a9 : List Timer} {v9 : AV} {F9 : List Nat} {a10 : List Itm} {v10 : AV} {F10 : List Nat} {a11 : List Itm} {v11 : AV} {F11 : List Nat} {a12 : List Task} {v12 : AV} {F12 : List Nat} {a13 : List Deed} {v13 : AV} {F13 : List Nat} {a14 : Int} (r0 : Cel.rep h a0 c0 F0) (k0 : Cel.ok a0) (k1 : Cel.ok a1) (k2 : Cel.ok a2) (r3 : SlRep h v3 a3 F3) (k3 : Cel.ok a3) (k4 : Cel.ok a4) (r5 : Cel.rep h a5 c5 F5) (k5 : Cel.ok a5) (r6 : SlRep h v6 a6 F6) (k6 : Cel.ok a6) (k7 : Cel.ok a7) (r8 : Cel.rep h a8 c8 F8) (k8 : Cel.ok a8) (r9 : SlRep h v9 a9 F9) (k9 : Cel.ok a9) (r10 : SlRep h v10 a10 F10) (k10 : Cel.ok a10) (r11 : SlRep h v11 a11 F11) (k11 : Cel.ok a11) (r12 : SlRep h v12 a12 F12) (k12 : Cel.ok a12) (r13 : SlRep h v13 a13 F13) (k13 : Cel.ok a13) (k14 : Cel.ok a14) : ∃ x : Wld, Cel.rep h x (c0 ++ ([.int .i64 a1] ++ ([.bool a2] ++ ([v3] ++ ([.int .i64 a4] ++ (c5 ++ ([v6] ++ ([.int .i64 a7] ++ (c8 ++ ([v9] ++ ([v10] ++ ([v11] ++ ([v12] ++ ([v13] ++ ([.int .i64 a14] ++ []))))))))))))))) (F0 ++ ([] ++ ([] ++ (F3 ++ ([] ++ (F5 ++ (F6 ++ ([] ++ (F8 ++ (F9 ++ (F10 ++ (F11 ++ (F12 ++ (F13 ++ ([] ++ []))))))))))))))) ∧ Cel.ok x := by
  obtain ⟨w0, rfl, q0⟩ := r0
  obtain ⟨rfl, rfl⟩ := r5
  obtain ⟨w8_0, w8_1, w8_2, G8_0, G8_1, G8_2, rfl, rfl, q8_0, q8_1, q8_2⟩ := r8
  exact ⟨⟨a0, a1, a2, a3, a4, a5, a6, a7, a8, a9, a10, a11, a12, a13, a14⟩, ⟨w0, v3, v6, w8_0, w8_1, w8_2, v9, v10, v11, v12, v13, F0, F3, F6, G8_0, G8_1, G8_2, F9, F10, F11, F12, F13, rfl, by simp, q0, r3, r6, q8_0, q8_1, q8_2, r9, r10, r11, r12, r13⟩, ⟨k0, k1, k3, k4, k5, k6, k7, k8, k9, k10, k11, k12, k13, k14⟩⟩
end Go.Ab
