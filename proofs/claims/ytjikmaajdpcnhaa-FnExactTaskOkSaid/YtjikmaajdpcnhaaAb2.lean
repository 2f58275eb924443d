/- Operations over the abstract heap, and shallow programs made of them. -/
import Derived.Test.YtjikmaajdpcnhaaAb1
set_option linter.unusedSimpArgs false
set_option linter.unusedVariables false
namespace Go.Ab
open Go.RowKit

inductive AOp where
  | mv (x : AV)
  | pick (c a b : AV)
  | alloc (cells : List AV)
  | box (v : AV)
  | build (zero : List AV) (parts : List (Nat × Nat × AV))
  | bslice (es n : Nat) (zero : List AV) (parts : List (Nat × Nat × AV))
  | ld1 (a : AV)
  | ldn (n : Nat) (a : AV)
  | st (n : Nat) (a x : AV)
  | fad (off : Nat) (a : AV)
  | fld1 (off : Nat) (x : AV)
  | fldn (off n : Nat) (x : AV)
  | idx (es : Nat) (x i : AV)
  | sidx (x i : AV)
  | bin (ty : Nat) (op : BinOp) (x y : AV)
  | eqs (tys : List Nat) (neg : Bool) (x y : AV)
  | una (op : UnOp) (x : AV)
  | conv (k : IntKind) (x : AV)
  | bstr (x : AV)
  | len (ty : Nat) (x : AV)
  | capo (es : Nat) (x : AV)
  | app (es bytes : Nat) (x y : AV)
  | cpy (es : Nat) (x y : AV)
  | clr (es : Nat) (zero : List AV) (x : AV)
  | mnx (mn : Bool) (xs : List AV)
  | mksl (es bytes : Nat) (zero : List AV) (n c : AV)
  | slc (es : Nat) (x : AV) (lo hi mx : Option AV)
  | slc3 (x : AV) (lo hi : Option AV) (mx : AV)
  | sslc (x : AV) (lo hi : Option AV)
  | nilck (x : AV)
  | ext (x : AV) (i : Nat)
  | mkfn (f : Nat) (caps : List AV)
  | call (f : Nat) (args : List AV)
  | callv (f : AV) (args : List AV)
  | bad
  deriving Inhabited

/-- A value's cells. -/
def AV.cells? : AV → Option (List AV)
  | .agg vs => some vs
  | .tup _ => none
  | .un => none
  | v => some [v]

def splice (cs : List AV) (off : Nat) (xs : List AV) : List AV := cs.take off ++ xs ++ cs.drop (off + xs.length)

/-- 'Instr.fill' on abstract cells. -/
def afill : List AV → List (Nat × Nat × AV) → Option (List AV)
  | cs, [] => some cs
  | cs, (off, size, v) :: rest =>
    match v.cells? with
    | some xs => if xs.length = size ∧ off + size ≤ cs.length then afill (splice cs off xs) rest else none
    | none => none

def abin (op : BinOp) : AV → AV → Option AV
  | .int k a, .int k' b =>
    match op with
    | .shl => if b < 0 then none else some (.int k (k.wrap (a * 2 ^ (min b.toNat k.bits))))
    | .shr => if b < 0 then none else some (.int k (a.fdiv (2 ^ (min b.toNat k.bits))))
    | .add => if k = k' then some (.int k (k.wrap (a + b))) else none
    | .sub => if k = k' then some (.int k (k.wrap (a - b))) else none
    | .mul => if k = k' then some (.int k (k.wrap (a * b))) else none
    | .quo => if k = k' ∧ b ≠ 0 then some (.int k (k.wrap (a.tdiv b))) else none
    | .rem => if k = k' ∧ b ≠ 0 then some (.int k (a.tmod b)) else none
    | .and => if k = k' then some (.int k (k.wrap (BitVec.ofInt k.bits a &&& BitVec.ofInt k.bits b).toNat)) else none
    | .or => if k = k' then some (.int k (k.wrap (BitVec.ofInt k.bits a ||| BitVec.ofInt k.bits b).toNat)) else none
    | .xor => if k = k' then some (.int k (k.wrap (BitVec.ofInt k.bits a ^^^ BitVec.ofInt k.bits b).toNat)) else none
    | .andNot => none
    | .eql => if k = k' then some (.bool (decide (a = b))) else none
    | .neq => if k = k' then some (.bool (!decide (a = b))) else none
    | .lss => if k = k' then some (.bool (decide (a < b))) else none
    | .leq => if k = k' then some (.bool (decide (a ≤ b))) else none
    | .gtr => if k = k' then some (.bool (decide (b < a))) else none
    | .geq => if k = k' then some (.bool (decide (b ≤ a))) else none
  | .bool a, .bool b =>
    match op with
    | .eql => some (.bool (a == b))
    | .neq => some (.bool (!(a == b)))
    | _ => none
  | .str a, .str b =>
    match op with
    | .add => if ((a.size + b.size : Nat) : Int) ≤ 9223372036854775807 then some (.str (a ++ b)) else none
    | .eql => some (.bool (decide (a = b)))
    | .neq => some (.bool (!decide (a = b)))
    | .lss => some (.bool (Op.bytesLess a.toList b.toList))
    | .leq => some (.bool (Op.bytesLess a.toList b.toList || decide (a = b)))
    | .gtr => some (.bool (!(Op.bytesLess a.toList b.toList || decide (a = b))))
    | .geq => some (.bool (!(Op.bytesLess a.toList b.toList)))
    | _ => none
  | _, _ => none

def binOk : Nat → AV → AV → Bool
  | 0, .int .., .int .. => true
  | 1, .str .., .str .. => true
  | 2, .bool .., .bool .. => true
  | _, _, _ => false

/-- Equality of flat structs: all pairs. -/
def aeqs : List Nat → List AV → List AV → Option Bool
  | [], [], [] => some true
  | t :: ts, x :: xs, y :: ys =>
    match binOk t x y, abin .eql x y with
    | true, some (.bool b) => match aeqs ts xs ys with
      | some c => some (b && c)
      | none => none
    | _, _ => none
  | _, _, _ => none

def auna (op : UnOp) : AV → Option AV
  | .bool b => match op with
    | .not => some (.bool (!b))
    | _ => none
  | .int k n => match op with
    | .neg => some (.int k (k.wrap (0 - n)))
    | _ => none
  | _ => none

def amnxGo (mn : Bool) : Int → List AV → Option Int
  | a, [] => some a
  | a, .int .i64 b :: rest => amnxGo mn (if mn then (if b < a then b else a) else (if a < b then b else a)) rest
  | _, _ => none
def amnx (mn : Bool) : List AV → Option Int
  | .int .i64 a :: rest => amnxGo mn a rest
  | _ => none

/-- A bound of a slice expression. -/
def asInt? : AV → Option Int
  | .int _ n => some n
  | _ => none

def bnd (o : Option AV) (d : Int) : Option Int :=
  match o with
  | some l => asInt? l
  | none => some d

def Callable (P : Program) (f : FuncId) : Prop :=
  ∃ fn, P.funcs[f]? = some fn ∧ (fn.name == "runtime.NumGoroutine") = false ∧ fn.body.isNone = false

/-- The contract of a Go function over the abstract heap. -/
def ACalls (P : Program) (f : FuncId) (args : List AV) (h : AH) (R : AV → AH → Prop) : Prop :=
  Callable P f ∧ ∀ (B : Nat) (w0 : World) (m : BM) (w : World) (l : List Value), Sim B w0 m h w → VRels m args l →
    Calls P f l.toArray w fun e w' => ∃ v a m' h', e = .returned v ∧ Grow h.n m h'.n m' ∧ Sim B w0 m' h' w' ∧ VRel m' a v ∧ R a h'

def live (h : AH) (b : Nat) : Prop := (h.get b).st ≠ 2
def mine (h : AH) (b : Nat) : Prop := (h.get b).st = 0

/-- The cells of a slice. -/
def slcells (h : AH) (es : Nat) : AV → Option (List AV)
  | .nils => some []
  | .sl b off len => if off + len * es ≤ (h.get b).cells.length then some (((h.get b).cells.drop off).take (len * es)) else none
  | .str s => if es = 1 then some (s.data.toList.map fun c => .int .u8 c.toNat) else none
  | _ => none
def sllen : AV → Option Nat
  | .nils => some 0
  | .sl _ _ len => some len
  | .str s => some s.size
  | _ => none
def slive (h : AH) : AV → Prop
  | .sl b _ len => len = 0 ∨ live h b
  | _ => True

/-- The bytes of cells. -/
def cbytes : List AV → Option (List Int)
  | [] => some []
  | .int .u8 n :: r => match cbytes r with
    | some l => some (n :: l)
    | none => none
  | _ => none
/-- The text of a slice of bytes. -/
def bstrv (h : AH) : AV → Option ByteArray
  | .nils => some .empty
  | .sl b off len => if off + len ≤ (h.get b).cells.length then match cbytes (((h.get b).cells.drop off).take len) with
      | some ns => some (ns.foldl (fun r n => r.push (UInt8.ofNat n.toNat)) ByteArray.empty)
      | none => none
    else none
  | _ => none
def blive (h : AH) : AV → Prop
  | .sl b _ _ => live h b
  | _ => True

def lenOk : Nat → AV → Bool
  | 0, .sl .. => true
  | 0, .nils => true
  | 1, .str .. => true
  | _, _ => false

def AOp.go (P : Program) (o : AOp) (h : AH) (K : AV → AH → Prop) : Prop :=
  match o with
  | .mv x => K x h
  | .pick c a b => match c with
    | .bool c => K (if c then a else b) h
    | _ => False
  | .alloc cells => K (.ptr h.n 0) (h.push ⟨cells, 0, 0⟩)
  | .box v => match v.cells? with
    | some cs => K (.ptr h.n 0) (h.push ⟨cs, 0, 0⟩)
    | none => False
  | .build zero parts => match afill zero parts with
    | some cs => K (.agg cs) h
    | none => False
  | .bslice es n zero parts => match afill zero parts with
    | some cs => n * es ≤ 16777216 ∧ cs.length = n * es ∧ K (.sl h.n 0 n) (h.push ⟨cs, es, 0⟩)
    | none => False
  | .ld1 a => match a with
    | .ptr b o => match (h.get b).cells[o]? with
      | some v => live h b ∧ K v h
      | none => False
    | _ => False
  | .ldn n a => match a with
    | .ptr b o => live h b ∧ o + n ≤ (h.get b).cells.length ∧ K (.agg (((h.get b).cells.drop o).take n)) h
    | _ => False
  | .st n a x => match a, x.cells? with
    | .ptr b o, some xs => mine h b ∧ xs.length = n ∧ o + n ≤ (h.get b).cells.length ∧ K (.tup []) (h.upd b { h.get b with cells := splice (h.get b).cells o xs })
    | _, _ => False
  | .fad off a => match a with
    | .ptr b o => K (.ptr b (o + off)) h
    | _ => False
  | .fld1 off x => match x with
    | .agg vs => match vs[off]? with
      | some v => K v h
      | none => False
    | _ => False
  | .fldn off n x => match x with
    | .agg vs => off + n ≤ vs.length ∧ K (.agg ((vs.drop off).take n)) h
    | _ => False
  | .idx es x i => match x, i with
    | .sl b off ln, .int _ i => 0 ≤ i ∧ i < ln ∧ K (.ptr b (off + i.toNat * es)) h
    | _, _ => False
  | .sidx x i => match x, i with
    | .str s, .int _ i => 0 ≤ i ∧ ∃ c : UInt8, s[i.toNat]? = some c ∧ K (.int .u8 c.toNat) h
    | _, _ => False
  | .bin ty op x y => match binOk ty x y with
    | true => match abin op x y with
      | some v => K v h
      | none => False
    | false => False
  | .eqs tys neg x y => match x, y with
    | .agg xs, .agg ys => match aeqs tys xs ys with
      | some b => K (.bool (if neg then !b else b)) h
      | none => False
    | _, _ => False
  | .una op x => match auna op x with
    | some v => K v h
    | none => False
  | .conv k x => match x with
    | .int _ n => K (.int k (k.wrap n)) h
    | _ => False
  | .bstr x => match bstrv h x with
    | some s => blive h x ∧ K (.str s) h
    | none => False
  | .len ty x => match lenOk ty x with
    | true => match sllen x with
      | some n => K (.int .i64 n) h
      | none => False
    | false => False
  | .capo _ _ => False
  | .app es bytes x y => match x, slcells h es y, sllen y with
    | .nils, some new, some n => slive h y ∧ n * bytes ≤ 70368744177664 ∧ (if n = 0 then K .nils h else K (.sl h.n 0 n) (h.push ⟨new, es, 0⟩))
    | .sl b off ln, some new, some n => mine h b ∧ slive h y ∧ es ≠ 0 ∧ (h.get b).es = es ∧
        (if off + (ln + n) * es ≤ (h.get b).cells.length
         then K (.sl b off (ln + n)) (h.upd b { h.get b with cells := splice (h.get b).cells (off + ln * es) new })
         else (ln + n) * bytes ≤ 70368744177664 ∧ off + ln * es ≤ (h.get b).cells.length ∧
           K (.sl h.n 0 (ln + n)) ((h.kill b).push ⟨((h.get b).cells.drop off).take (ln * es) ++ new, es, 0⟩))
    | _, _, _ => False
  | .cpy _ _ _ => False
  | .clr es zero x => match x with
    | .nils => K (.tup []) h
    | .sl b off ln => mine h b ∧ zero.length = es ∧ off + ln * es ≤ (h.get b).cells.length ∧ K (.tup []) (h.upd b { h.get b with cells := splice (h.get b).cells off (List.replicate ln zero).flatten })
    | _ => False
  | .mnx mn xs => match amnx mn xs with
    | some n => K (.int .i64 n) h
    | none => False
  | .mksl es bytes zero n c => match n, c with
    | .int .i64 n, .int .i64 c => 0 ≤ n ∧ n = c ∧ n * bytes ≤ 70368744177664 ∧ K (.sl h.n 0 n.toNat) (h.push ⟨(List.replicate n.toNat zero).flatten, es, 0⟩)
    | _, _ => False
  | .slc es x lo hi mx => match x with
    | .sl b off ln =>
      match bnd lo 0, bnd hi ln with
      | some lo, some hi => es ≠ 0 ∧ (h.get b).es = es ∧ mine h b ∧ off + ln * es ≤ (h.get b).cells.length ∧ 0 ≤ lo ∧ lo ≤ hi ∧ off + hi.toNat * es ≤ (h.get b).cells.length ∧
        (match mx with
         | none => K (.sl b (off + lo.toNat * es) (hi - lo).toNat) h
         | some _ => False)
      | _, _ => False
    | .nils =>
      match bnd lo 0, bnd hi 0 with
      | some lo, some hi => lo = 0 ∧ hi = 0 ∧ mx.isNone = true ∧ K .nils h
      | _, _ => False
    | _ => False
  | .slc3 x lo hi mx => match x with
    | .sl b off ln =>
      match bnd lo 0, bnd hi 0, asInt? mx with
      | some l, some hh, some q => hi.isSome = true ∧ 0 ≤ l ∧ l ≤ hh ∧ hh ≤ q ∧ q ≤ ln ∧ K .un h
      | _, _, _ => False
    | _ => False
  | .sslc x lo hi => match x with
    | .str s =>
      match bnd lo 0, bnd hi s.size with
      | some lo, some hi => 0 ≤ lo ∧ lo ≤ hi ∧ hi ≤ s.size ∧ K (.str (s.extract lo.toNat hi.toNat)) h
      | _, _ => False
    | _ => False
  | .nilck x => match x with
    | .ptr b o => K (.ptr b o) h
    | _ => False
  | .ext x i => match x with
    | .tup vs => match vs[i]? with
      | some v => K v h
      | none => False
    | _ => False
  | .mkfn f caps => K (.fn f caps) h
  | .call f args => ACalls P f args h K
  | .callv f args => match f with
    | .fn f caps => ACalls P f (args ++ caps) h K
    | _ => False
  | .bad => False

theorem ACalls.mono {P : Program} {f : FuncId} {args : List AV} {h : AH} {R R' : AV → AH → Prop} (c : ACalls P f args h R) (hr : ∀ v h', R v h' → R' v h') : ACalls P f args h R' :=
  ⟨c.1, fun B w0 m w l s hl => (c.2 B w0 m w l s hl).mono fun _ _ ⟨v, a, m', h', h1, h2, h3, h4, h5⟩ => ⟨v, a, m', h', h1, h2, h3, h4, hr _ _ h5⟩⟩

theorem AOp.go_mono {P : Program} {o : AOp} {h : AH} {K K' : AV → AH → Prop} (g : o.go P h K) (hk : ∀ v h', K v h' → K' v h') : o.go P h K' := by
  cases o <;> simp only [AOp.go] at g ⊢
  case call => exact g.mono hk
  case callv => (repeat' split at g) <;> first | exact g.elim | exact g.mono hk
  all_goals (repeat' split at g)
  all_goals first
    | exact g.elim
    | exact hk _ _ g
    | (simp_all; done)
    | grind

/-- What a function hands back. -/
inductive RV where
  | val (v : AV)
  | c1 (a : AV)
  | cn (n : Nat) (a : AV)

def RV.get (h : AH) : RV → Option AV
  | .val v => some v
  | .c1 a => match a with
    | .ptr b o => if (h.get b).st = 2 then none else (h.get b).cells[o]?
    | _ => none
  | .cn n a => match a with
    | .ptr b o => if (h.get b).st = 2 then none else if o + n ≤ (h.get b).cells.length then some (.agg (((h.get b).cells.drop o).take n)) else none
    | _ => none
def rvals (h : AH) : List RV → Option (List AV)
  | [] => some []
  | r :: rs => match r.get h, rvals h rs with
    | some v, some vs => some (v :: vs)
    | _, _ => none
def retv : List AV → AV
  | [v] => v
  | vs => .tup vs

/-- What an operation that may run early tells still holds. -/
def AOp.still (P : Program) (o : AOp) (v : AV) (h : AH) : Prop :=
  match o with
  | .alloc cells => match v with
    | .ptr b 0 => (h.get b).cells = cells ∧ (h.get b).es = 0 ∧ (h.get b).st = 0
    | _ => False
  | .box x => match v, x.cells? with
    | .ptr b 0, some cs => (h.get b).cells = cs ∧ (h.get b).es = 0 ∧ (h.get b).st = 0
    | _, _ => False
  | .bslice es n zero parts => match v, afill zero parts with
    | .sl b 0 k, some cs => k = n ∧ n * es ≤ 16777216 ∧ cs.length = n * es ∧ (h.get b).cells = cs ∧ (h.get b).es = es ∧ (h.get b).st = 0
    | _, _ => False
  | o => o.go P h fun v' h' => v' = v ∧ h' = h

/-- Shallow programs. Tags of a leaf: 0 normal, 1 return, n + 2: leave block n. -/
inductive Prog where
  | leaf (tag : Nat) (vs : List AV)
  | fin (rs : List RV)
  | op (o : AOp) (k : AV → Prog)
  | gop (c : AV) (want : Bool) (o : AOp) (k : AV → Prog)
  | ite (c : AV) (p q : Prog)
  | scope (p : Prog) (kn : List AV → Prog) (ka : Nat → List AV → Prog)
  | loop (init : List AV) (body : List AV → Prog) (ka : Nat → List AV → Prog)
  | chk (o : AOp) (v : AV) (p : Prog)
  | gchk (c : AV) (want : Bool) (o : AOp) (v : AV) (p : Prog)
  | bad

def Prog.awp (P : Program) : Prog → AH → (Nat → List AV → AH → Prop) → Prop
  | .leaf tag vs, h, Q => Q tag vs h
  | .fin rs, h, Q => match rvals h rs with
    | some vs => Q 1 [retv vs] h
    | none => False
  | .op o k, h, Q => o.go P h fun v h' => (k v).awp P h' Q
  | .gop c want o k, h, Q => match c with
    | .bool b => if b = want then o.go P h fun v h' => (k v).awp P h' Q else (k (.tup [])).awp P h Q
    | .tup [] => (k (.tup [])).awp P h Q
    | _ => False
  | .ite c p q, h, Q => match c with
    | .bool b => if b = true then p.awp P h Q else q.awp P h Q
    | _ => False
  | .scope p kn ka, h, Q => p.awp P h fun tag vs h' => if tag = 0 then (kn vs).awp P h' Q else (ka tag vs).awp P h' Q
  | .loop init body ka, h, Q => ∃ (I : List AV → AH → Prop) (μ : List AV → AH → Nat), I init h ∧ ∀ vs h1, I vs h1 →
      (body vs).awp P h1 fun tag vs' h' => if tag = 0 then I vs' h' ∧ μ vs' h' < μ vs h1 else (ka tag vs').awp P h' Q
  | .chk o v p, h, Q => o.still P v h ∧ p.awp P h Q
  | .gchk c want o v p, h, Q => (match c with
    | .bool b => if b = want then o.still P v h else True
    | .tup [] => True
    | _ => False) ∧ p.awp P h Q
  | .bad, _, _ => False

theorem Prog.awp_mono {P : Program} (p : Prog) : ∀ {h : AH} {Q Q' : Nat → List AV → AH → Prop}, p.awp P h Q → (∀ t vs h', Q t vs h' → Q' t vs h') → p.awp P h Q' := by
  induction p with
  | leaf tag vs => intro h Q Q' g hq; exact hq _ _ _ g
  | fin rs =>
    intro h Q Q' g hq
    simp only [Prog.awp] at g ⊢
    cases hr : rvals h rs with
    | none => rw [hr] at g; exact g.elim
    | some vs => rw [hr] at g; exact hq _ _ _ g
  | op o k ih => intro h Q Q' g hq; exact AOp.go_mono g fun v h' g' => ih v g' hq
  | gop c want o k ih =>
    intro h Q Q' g hq
    cases c with
    | bool b =>
      simp only [Prog.awp] at g ⊢
      split at g
      · rename_i e; rw [if_pos e]; exact AOp.go_mono g fun v h' g' => ih v g' hq
      · rename_i e; rw [if_neg e]; exact ih _ g hq
    | tup vs =>
      cases vs with
      | nil => exact ih _ g hq
      | cons x xs => exact g.elim
    | _ => exact g.elim
  | ite c p q ihp ihq =>
    intro h Q Q' g hq
    cases c with
    | bool b =>
      simp only [Prog.awp] at g ⊢
      split at g
      · rename_i e; rw [if_pos e]; exact ihp g hq
      · rename_i e; rw [if_neg e]; exact ihq g hq
    | _ => exact g.elim
  | scope p kn ka ihp ihn iha =>
    intro h Q Q' g hq
    refine ihp g fun t vs h' g' => ?_
    split
    · rename_i ht; rw [if_pos ht] at g'; exact ihn vs g' hq
    · rename_i ht; rw [if_neg ht] at g'; exact iha t vs g' hq
  | loop init body ka ihb iha =>
    intro h Q Q' g hq
    obtain ⟨I, μ, h0, hr⟩ := g
    refine ⟨I, μ, h0, fun vs h1 hi => ihb vs (hr vs h1 hi) fun t vs' h' g' => ?_⟩
    split
    · rename_i ht; rw [if_pos ht] at g'; exact g'
    · rename_i ht; rw [if_neg ht] at g'; exact iha t vs' g' hq
  | chk o v p ih => intro h Q Q' g hq; exact ⟨g.1, ih g.2 hq⟩
  | gchk c want o v p ih => intro h Q Q' g hq; exact ⟨g.1, ih g.2 hq⟩
  | bad => intro h Q Q' g hq; exact g

end Go.Ab
