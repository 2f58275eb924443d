import Derived.Test.YtekfdoknfcedpaaGreatDKW4
import Derived.Test.YtekfdoknfcedpaaGreatDW26
import Derived.Test.YtekfdoknfcedpaaGreatDW30
import Derived.Test.YtekfdoknfcedpaaGreatDW39
import Derived.Test.YtekfdoknfcedpaaGreatDKW2
set_option linter.unusedSimpArgs false
set_option linter.unusedVariables false
namespace Go.Proofs.YtekfdoknfcedpaaGreat
open Go Go.Ab
def wr (n:Int):Int:=IntKind.i64.wrap n
def yT (a b:Int):Int:=cap (cap a - cap b)
def Gc (a b:Int):Int:=cap (cap a * cap b)
noncomputable def ny (b:Bucket) (now:Int):Bucket:=if bp (gG b∧b.at_≤now∧now≤2147483647)=true then⟨b.rate,b.aW,min (GD b.tokens (Gc b.rate (yT now b.at_))) b.aW,now⟩ else b
noncomputable def kR (b:Bucket) (n:Int):Bool:=bp (gG b∧0≤n∧n≤b.tokens)
noncomputable def ko (b:Bucket) (n:Int):Bucket:=if kR b n=true then{b with tokens:=b.tokens - n} else b
def lenOf (s:Span):Int:=yT s.fin s.start
def errs (l:List Span):Nat:=(l.filter (·.err)).length
def kY (l:List Attr) (key:ByteArray):Option Attr:=l.find? fun a=>decide (a.key=key)
def DJ (key text:ByteArray) (s:Span):Prop:=∃ a,kY s.attrs key=some a∧a.num=false∧a.text=text
def Ed (key:ByteArray) (n:Int) (s:Span):Prop:=∃ a,kY s.attrs key=some a∧a.num=true∧n≤a.n
mutual
def eP (l:List Span) (n:Int):Pol→Prop
 | .mk k pn key text ps=>(k=1→True)∧(k=2→0 < errs l)∧(k=3→∃ s∈l,pn≤lenOf s)∧(k=4→∃ s∈l,DJ key text s)∧(k=5→∃ s∈l,Ed key pn s)∧(k=6→(l.length:Int)≤n)∧(k=7→yC l n ps)∧(k=8→yB l n ps)∧(k=9→Ez l n ps)∧(1≤k∧k≤9)
def yC (l:List Span) (n:Int):List Pol→Prop
 |[]=>True
 |p::ps=>eP l n p∧yC l n ps
def yB (l:List Span) (n:Int):List Pol→Prop
 |[]=>False
 |p::ps=>eP l n p∨yB l n ps
def Ez (l:List Span) (n:Int):List Pol→Prop
 |[]=>True
 |p::ps=>¬ eP l n p
end
mutual
def jE:Pol→Prop
 | .mk k _ _ _ ps=>k=6∨yN ps
def yN:List Pol→Prop
 |[]=>False
 |p::ps=>jE p∨yN ps
end
noncomputable def lY (p:Pol) (l:List Span) (n:Int):Bool:=bp (eP l n p)
noncomputable def nC (p:Pol) (l:List Span) (n:Int):Int:=if lY p l n=true then(if bp (jE p)=true then min (l.length:Int) (cap n) else 0) else 0
def without (id:Int) (l:List Ab.Timer):List Ab.Timer:=l.filter fun t=>!(pR id t)
noncomputable def jK (x:Wld) (o:Trail) (keep:Bool):Wld:={x with st:=eU x.st o.id,used:=wr (x.used - iq o),cache:=(rem x.cache ⟨o.id,o.stamp,keep⟩ x.c.cache).1}
noncomputable def gU (x:Wld) (o:Trail) (keep:Bool):Int:=(rem x.cache ⟨o.id,o.stamp,keep⟩ x.c.cache).2
def jv (x:Wld):Wld:={x with time:=wr (x.time+1)}
noncomputable def pF (x:Wld) (t:Task):Prop:=iY x.st t.trace=true∧(fO x.st t.trace).stamp=t.stamp
noncomputable def qb (x:Wld):Bucket:=ny x.b x.w.now
noncomputable def fI (x:Wld) (t:Task):Bool:=lY x.c.rule (fO x.st t.trace).spans (qb x).tokens
noncomputable def jX (x:Wld) (t:Task):Int:=nC x.c.rule (fO x.st t.trace).spans (qb x).tokens
noncomputable def gM (x:Wld) (t:Task):List Itm:=if fI x t=true then(fO x.st t.trace).spans.map fun s=>⟨t.stamp,s⟩ else[]
def nO (x:Wld) (k:Nat) (t:Task) (hand:List Itm):Wld:={x with
 st:=jQ x.st t.trace (-1),bH:=-1
 aH:=if hand.length=0 then upd x.aH t.h.toNat (fun d=>{d with res:=x.time}) else x.aH
 tasks:=if hand.length=0 then x.tasks.set k kr else x.tasks.set k {t with pc:=3,hand:=hand}}
noncomputable def jW (x:Wld) (k:Nat) (t:Task):Wld:=
 if bp (pF x t)=true then
  nO {jK x (fO x.st t.trace) (fI x t) with
   b:=ko (qb x) (jX x t)
   aH:=upd x.aH t.h.toNat fun d=>{d with keep:=fI x t,took:=jX x t,n:=(fO x.st t.trace).spans.length,forgot:=gU x (fO x.st t.trace) (fI x t),lin:=x.time,now:=x.w.now}} k t (gM x t)
 else nO {x with aH:=upd x.aH t.h.toNat fun d=>{d with void:=true,lin:=x.time,now:=x.w.now}} k t []
def mg (x:Wld) (k:Nat) (t:Task):Option Wld:=match t.hand with
 |[]=>none
 |y::ys=>if x.c.queue≤(x.queue.length:Int) then none else some {x with
   queue:=x.queue++[y]
   aH:=if ys.length=0 then upd x.aH t.h.toNat (fun d=>{d with res:=x.time}) else x.aH
   tasks:=if ys.length=0 then x.tasks.set k kr else x.tasks.set k {t with hand:=ys}}
noncomputable def eZ (x:Wld) (k:Nat) (t:Task):Option Wld:=
 if t.pc=0 then(if jM x t.trace≠-1 then none else some {x with st:=jQ x.st t.trace k,tasks:=x.tasks.set k {t with pc:=1}})
 else if t.pc=1 then(if x.bH≠-1 then none else some {x with bH:=k,tasks:=x.tasks.set k {t with pc:=2}})
 else if t.pc=2 then some (jW x k t)
 else mg x k t
end Go.Proofs.YtekfdoknfcedpaaGreat
