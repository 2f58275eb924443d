import Derived.Test.YtekfdoknfcedpaaGreatDKW4
import Derived.Test.YtekfdoknfcedpaaGreatDW26
import Derived.Test.YtekfdoknfcedpaaGreatDW30
import Derived.Test.YtekfdoknfcedpaaGreatDW39
import Derived.Test.YtekfdoknfcedpaaGreatDKW2
set_option linter.unusedSimpArgs false
set_option linter.unusedVariables false
namespace Go.Proofs.YtekfdoknfcedpaaGreat
open Go Go.Ab
def wr (n:Int):Int:=IntKind.i64.wrap n
def am5 (a b:Int):Int:=cap (cap a - cap b)
def lenOf (s:Span):Int:=am5 s.fin s.start
def eu (w:bD) (t:Ab.Timer):bD:=
 if t.at_ / 8=w.now / 8 then{w with near:=upd w.near (t.at_ % 8).toNat (· ++[t])}
 else if t.at_ / 8 - w.now / 8 < 8 then{w with far:=upd w.far (t.at_ / 8 % 8).toNat (· ++[t])}
 else{w with rest:=w.rest++[t]}
noncomputable def qm (w:bD) (t:Ab.Timer):Bool:=bp ((iA w∧w.now < t.at_∧t.at_≤2147483647)∧iA (eu w t))
noncomputable def dP (w:bD) (t:Ab.Timer):bD:=if qm w t=true then eu w t else w
def without (id:Int) (l:List Ab.Timer):List Ab.Timer:=l.filter fun t=>!(iD id t)
noncomputable def fU (w:bD) (id:Int):bD:=if bp (iA w)=true then⟨w.now,w.near.map (without id),w.far.map (without id),without id w.rest⟩ else w
def lq (x:Wld) (k:Nat) (t:Task) (code stamp:Int):Wld:={x with aI:=upd x.aI t.h.toNat (fun d=>{d with code:=code,stamp:=stamp,lin:=x.time,res:=x.time,now:=x.w.now}),st:=gU x.st t.s.trace (-1),tasks:=x.tasks.set k xk}
def gG (x:Wld) (t:Task):Int:=if fF x.st t.s.trace=true then(dx x.st t.s.trace).stamp else x.next
noncomputable def gZ (x:Wld) (t:Task):Wld:={x with
 next:=if fF x.st t.s.trace=true then x.next else wr (x.next+1)
 w:=if fF x.st t.s.trace=true then x.w else dP x.w ⟨x.next,t.s.trace,gV x.w.now x.c.wait⟩
 st:=upd x.st (stripe t.s.trace x.st.length).toNat fun s=>{s with l:=iE s.l t.s (gG x t) x.w.now}
 used:=wr (x.used+dM t.s)}
noncomputable def lookW (x:Wld) (k:Nat) (t:Task):Option Wld:=
 if x.shut=true then some (lq x k t 4 0)
 else if(vOf x.cache t.s.trace).2=true then
  (if(vOf x.cache t.s.trace).1.keep=true then
   (if x.c.queue≤(x.queue.length:Int) then none else some (lq {x with queue:=x.queue++[⟨(vOf x.cache t.s.trace).1.stamp,t.s⟩]} k t 2 (vOf x.cache t.s.trace).1.stamp))
  else some (lq x k t 3 (vOf x.cache t.s.trace).1.stamp))
 else if x.c.budget < wr (x.used+dM t.s) then some {x with st:=gU x.st t.s.trace (-1),tasks:=x.tasks.set k {t with pc:=2}}
 else some (lq (gZ x t) k t 1 (gG x t))
noncomputable def nQ (x:Wld) (k:Nat) (t:Task):Option Wld:=match oldest (allT x.st) with
 |none=>some {x with tasks:=x.tasks.set k {t with pc:=0}}
 |some o=>if iK x o.id≠-1 then none else some {x with st:=gU x.st o.id k,tasks:=x.tasks.set k {t with pc:=3,trace:=o.id,stamp:=o.stamp}}
noncomputable def qW (x:Wld) (o:Trail) (keep:Bool):Wld:={x with st:=gL x.st o.id,used:=wr (x.used - iZ o),cache:=(rem x.cache ⟨o.id,o.stamp,keep⟩ x.c.cache).1}
noncomputable def qV (x:Wld) (o:Trail) (keep:Bool):Int:=(rem x.cache ⟨o.id,o.stamp,keep⟩ x.c.cache).2
noncomputable def gu (x:Wld) (t:Task) (k:Nat):Wld:=
 if fF x.st t.trace=true∧(dx x.st t.trace).stamp=t.stamp∧x.c.budget < wr (x.used+dM t.s) then
  {qW x (dx x.st t.trace) false with
   w:=fU x.w (dx x.st t.trace).stamp
   aI:=x.aI++[⟨3,k,uq,(dx x.st t.trace).id,(dx x.st t.trace).stamp,0,false,false,0,(dx x.st t.trace).spans.length,qV x (dx x.st t.trace) false,x.w.now,x.time,x.time,x.time⟩]}
 else x
noncomputable def lV (x:Wld) (k:Nat) (t:Task):Wld:={gu x t k with st:=gU (gu x t k).st t.trace (-1),tasks:=x.tasks.set k {t with pc:=0,trace:=0,stamp:=0}}
noncomputable def gJ (x:Wld) (k:Nat) (t:Task):Option Wld:=
 if t.pc=0 then(if iK x t.s.trace≠-1 then none else some {x with st:=gU x.st t.s.trace k,tasks:=x.tasks.set k {t with pc:=1}})
 else if t.pc=1 then lookW x k t
 else if t.pc=2 then nQ x k t
 else some (lV x k t)
def kE (x:Wld):Wld:={x with time:=wr (x.time+1)}
end Go.Proofs.YtekfdoknfcedpaaGreat
