/- From a function's code to a shallow program. -/
import Derived.Test.YtjikmaajdpcnhaaAb10
import Derived.Orders
set_option linter.unusedSimpArgs false
set_option linter.unusedVariables false
namespace Go.Ab
open Go.RowKit

def evE (env : List AV) : Operand → AV
  | .tmp t => env.getD t .un
  | .const v => ofVal v
  | .global _ => .un
  | .func f => .fn f []
def setE (env : List AV) (dst : Option Tmp) (v : AV) : List AV :=
  match dst with
  | some d => env.set d v
  | none => env
/-- A guard's value. -/
def gvE (ops : Array Oper) (env : List AV) (j : Nat) : AV :=
  match ops[j]? with
  | some o => match o.dst with
    | some t => env.getD t (.tup [])
    | none => .tup []
  | none => .tup []

def trOper (P : Program) (ops : Array Oper) (o : Oper) (env : List AV) (k : List AV → Prog) : Prog :=
  match o.guard with
  | none => match o.op with
    | .move x => k (setE env o.dst (evE env x))
    | .assign x => k (setE env o.dst (evE env x))
    | op => .op (trOp P (evE env) op) fun v => k (setE env o.dst v)
  | some (j, want) => .gop (gvE ops env j) want (trOp P (evE env) o.op) fun v => k (setE env o.dst v)

def trOps (P : Program) (ops : Array Oper) : List Nat → List AV → (List AV → Prog) → Prog
  | [], env, K => K env
  | i :: rest, env, K => match ops[i]? with
    | some o => trOper P ops o env fun env' => trOps P ops rest env' K
    | none => .bad

/-- The re-checks behind an operation of a region that draws its order. -/
def trChk (P : Program) (ops : Array Oper) (env : List AV) : List Nat → Prog → Prog
  | [], p => p
  | i :: rest, p => match ops[i]? with
    | some o => match o.dst with
      | some d => match o.guard with
        | none => .chk (trOp P (evE env) o.op) (env.getD d .un) (trChk P ops env rest p)
        | some (j, want) => .gchk (gvE ops env j) want (trOp P (evE env) o.op) (env.getD d .un) (trChk P ops env rest p)
      | none => .bad
    | none => .bad
def trSteps (P : Program) (ops : Array Oper) : List (Nat × List Nat) → List AV → (List AV → Prog) → Prog
  | [], env, K => K env
  | (i, cs) :: rest, env, K => match ops[i]? with
    | some o => if (match o.dst with | some d => decide (d < env.length) | none => true) = true then trOper P ops o env fun env' => trChk P ops env' cs (trSteps P ops rest env' K) else .bad
    | none => .bad

/-- The temporaries that a code may write. -/
def wrOps : List Oper → List Nat
  | [] => []
  | o :: os => match o.dst with
    | some d => d :: wrOps os
    | none => wrOps os
def wr : Code → List Nat
  | .region _ ops _ => wrOps ops.toList
  | .seq a b => wr a ++ wr b
  | .cond _ a b => wr a ++ wr b
  | .block _ c => wr c
  | .loop c => wr c
  | _ => []
/-- May it end at its end? -/
def falls : Code → Bool
  | .skip | .region .. => true
  | .seq a b => falls a && falls b
  | .cond _ a b => falls a || falls b
  | .block .. => true
  | _ => false

/-- How many ways lead out of a block. -/
def outs (id : Nat) : Code → Nat
  | .exit i => if i = id then 1 else 0
  | .seq a b => outs id a + outs id b
  | .cond _ a b => outs id a + outs id b
  | .block _ c => outs id c
  | .loop c => outs id c
  | _ => 0
def nout (id : Nat) (c : Code) : Nat := outs id c + (if falls c = true then 1 else 0)

def keepL (c : Code) (lv : List Nat) : List Nat := lv.filter fun i => (wr c).contains i
def pack (env : List AV) (ks : List Nat) : List AV := ks.map fun i => env.getD i .un
def forget (env : List AV) : List Nat → List AV
  | [] => env
  | i :: is => forget (env.set i .un) is
/-- A value of a loop's or a meeting's state. -/
def g (vs : List AV) (i : Nat) : AV := vs.getD i .un
def unpackI (vs : List AV) : List AV → List Nat → Nat → List AV
  | env, [], _ => env
  | env, k :: ks, i => unpackI vs (env.set k (g vs i)) ks (i + 1)
def unpack (env : List AV) (ks : List Nat) (vs : List AV) : List AV := unpackI vs env ks 0

def tsel (t n : Nat) (p q : Prog) : Prog := if t = n then p else q
/-- The blocks that a code may leave. -/
def exs : Code → List Nat
  | .exit id => [id]
  | .seq a b => exs a ++ (exs b).filter fun i => !(exs a).contains i
  | .cond _ a b => exs a ++ (exs b).filter fun i => !(exs a).contains i
  | .block id c => (exs c).filter fun i => i != id
  | .loop c => exs c
  | _ => []
def selX (t : Nat) (k : Nat → Prog) : List Nat → Prog
  | [] => .bad
  | i :: is => tsel t (i + 2) (k i) (selX t k is)
def afterX (t : Nat) (vs : List AV) (c : Code) (k : Nat → Prog) : Prog := tsel t 1 (.leaf 1 vs) (selX t k (exs c))

/-! ### Regions that draw their order -/

/-- The operations that an operation stands behind in every order. -/
def predsOf (o : Oper) : List Nat := (o.after.toList.filter fun e => Region.binds .any e).map (·.on)
/-- .. and those behind which these stand. -/
def ancsGo : List Oper → List (List Nat) → List (List Nat)
  | [], acc => acc
  | o :: os, acc => ancsGo os (acc ++ [(predsOf o ++ (predsOf o).flatMap fun j => acc.getD j []).eraseDups])
def ancs (ops : List Oper) : List (List Nat) := ancsGo ops []

/-- It only reads, or makes a block of its own: it may run early. -/
def floats (o : Oper) : Bool :=
  match o.op with
  | .move _ | .pick .. | .alloc _ | .box .. | .build .. | .buildSlice .. | .load .. | .binOp .. | .unOp .. | .convert .. | .makeFunc .. | .slice .. | .fieldAddr .. | .field .. | .indexAddr .. | .index .. | .nilCheck _ | .extract .. => true
  | .call c => match c.callee with
    | .builtin .len | .builtin .min | .builtin .max => true
    | _ => false
  | _ => false
def hangs (o : Oper) : Bool :=
  match o.op with
  | .alloc _ | .box .. | .buildSlice .. | .load .. | .slice .. | .convert .. => true
  | _ => false
def dstIn (o : Oper) (l : List Nat) : Bool :=
  match o.dst with
  | some d => l.contains d
  | none => false

/-- The look at one step: 'pre' is done, 'rest' comes. -/
def stepOk (ops : Array Oper) (A : List (List Nat)) (pre : List Nat) (i : Nat) (cs rest : List Nat) : Bool :=
  match ops[i]? with
  | none => false
  | some o =>
    !pre.contains i && (predsOf o).all (fun j => pre.contains j) &&
    pre.all (fun x => match ops[x]? with
      | none => false
      | some ox =>
        (!dstIn ox (o.looksAt ops) || (A.getD i []).contains x) &&
        (if floats o = true then !dstIn o (ox.looksAt ops) && (ox.dst.isNone || ox.dst != o.dst)
         else (A.getD i []).contains x || (floats ox && !dstIn o (ox.looksAt ops) && (ox.dst.isNone || ox.dst != o.dst) && (!hangs ox || cs.contains x)))) &&
    (if floats o = true then cs.length == 0 && o.dst.isSome && !dstIn o (o.looksAt ops) else rest.all fun y => (A.getD y []).contains i)
def stepsOk (ops : Array Oper) (A : List (List Nat)) : List Nat → List (Nat × List Nat) → Bool
  | _, [] => true
  | pre, (i, cs) :: rest => stepOk ops A pre i cs (rest.map (·.1)) && stepsOk ops A (pre ++ [i]) rest
def okDraw (ops : Array Oper) (steps : List (Nat × List Nat)) : Bool :=
  (steps.length == ops.size) && (List.range ops.size).all (fun i => (steps.map (·.1)).contains i) && stepsOk ops (ancs ops.toList) [] steps

def tr (P : Program) (lv : List Nat) (sch : Nat → List (Nat × List Nat)) (rs : List AV → List RV) : Code → List AV → (List AV → Prog) → (Nat → List AV → Prog) → Prog
  | .skip, env, kn, _ => kn env
  | .ret, env, _, _ => .fin (rs env)
  | .exit id, env, _, kx => kx id env
  | .seq a b, env, kn, kx => tr P lv sch rs a env (fun env' => tr P lv sch rs b env' kn kx) kx
  | .region id ops draw, env, kn, _ =>
    if draw = true then (if okDraw ops (sch id) = true then trSteps P ops (sch id) env kn else .bad)
    else trOps P ops (List.range ops.size) env kn
  | .cond c a b, env, kn, kx =>
    if (falls a && falls b) = true then
      .scope (.ite (evE env c)
          (tr P lv sch rs a env (fun e => .leaf 0 (pack e (keepL (.cond c a b) lv))) (fun id e => .leaf (id + 2) (pack e (keepL (.cond c a b) lv))))
          (tr P lv sch rs b env (fun e => .leaf 0 (pack e (keepL (.cond c a b) lv))) (fun id e => .leaf (id + 2) (pack e (keepL (.cond c a b) lv)))))
        (fun vs => kn (unpack (forget env (wr (.cond c a b))) (keepL (.cond c a b) lv) vs))
        (fun t vs => afterX t vs (.cond c a b) fun id => kx id (unpack (forget env (wr (.cond c a b))) (keepL (.cond c a b) lv) vs))
    else .ite (evE env c) (tr P lv sch rs a env kn kx) (tr P lv sch rs b env kn kx)
  | .block id c, env, kn, kx =>
    if 1 < nout id c then
      .scope (tr P lv sch rs c env (fun e => .leaf 0 (pack e (keepL c lv))) (fun id' e => if id' = id then .leaf 0 (pack e (keepL c lv)) else .leaf (id' + 2) (pack e (keepL c lv))))
        (fun vs => kn (unpack (forget env (wr c)) (keepL c lv) vs))
        (fun t vs => afterX t vs (.block id c) fun id => kx id (unpack (forget env (wr c)) (keepL c lv) vs))
    else tr P lv sch rs c env kn (fun id' e => if id' = id then kn e else kx id' e)
  | .loop c, env, _, kx =>
    .loop (pack env (keepL c lv))
      (fun vs => tr P lv sch rs c (unpack (forget env (wr c)) (keepL c lv) vs) (fun e => .leaf 0 (pack e (keepL c lv))) (fun id e => .leaf (id + 2) (pack e (keepL c lv))))
      (fun t vs => afterX t vs c fun id => kx id (unpack (forget env (wr c)) (keepL c lv) vs))
  | _, _, _, _ => .bad

end Go.Ab
