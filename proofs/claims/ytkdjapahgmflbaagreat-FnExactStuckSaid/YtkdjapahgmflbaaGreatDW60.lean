import Derived.Test.YtkdjapahgmflbaaGreatDW26
import Derived.Test.YtkdjapahgmflbaaGreatDKW3
import Derived.Test.YtkdjapahgmflbaaGreatDKW2
import Derived.Test.YtkdjapahgmflbaaGreatDW9
import Derived.Test.YtkdjapahgmflbaaGreatDKW4
section
set_option linter.unusedSimpArgs false
set_option linter.unusedVariables false
set_option maxHeartbeats 4000000
namespace Go.Proofs.YtkdjapahgmflbaaGreat
open Go Go.Ab
section
def RO (x0:AV):Prog:=.op (.box x0) fun a=>Ld 32 a fun b=>Cl DZ [b] fun b=>.gop b true (.ldn 32 a) fun c=>.gop b true (.call EI [c]) fun c=>Pk b c (.bool false) fun b=>.gop b true (.ldn 32 a) fun a=>.gop b true (.call D5 [a]) fun a=>Pk b a (.bool false) fun a=>.fin [.val a]
theorem afR (x0:AV):CC Tryz.prog jI [x0] (RO x0):=cc Tryz.func29
end
theorem akf {w:bX} (h:jg w):∀ t∈timers w,1≤t.id∧(1≤t.trace∧t.trace≤999):=by
 obtain⟨-,h1,h2,h3,h4,-⟩:=h
 intro t ht
 unfold timers at ht
 rcases List.mem_append.1 ht with ht|ht
 ·rcases List.mem_append.1 ht with ht|ht
  ·obtain⟨a,ha,hta⟩:=List.mem_flatten.1 ht
   obtain⟨i,hi⟩:=List.mem_iff_getElem?.1 ha
   have hlt:=(List.getElem?_eq_some_iff.1 hi).1
   obtain⟨b,hb,-,-⟩:=aP (show i < w.far.length by omega)
   have k:=(h4 i a b hi hb).1 t hta
   exact⟨k.1,k.2.1⟩
  ·obtain⟨b,hb,htb⟩:=List.mem_flatten.1 ht
   obtain⟨i,hi⟩:=List.mem_iff_getElem?.1 hb
   have hlt:=(List.getElem?_eq_some_iff.1 hi).1
   obtain⟨a,ha,-,-⟩:=aP (show i < w.near.length by omega)
   have k:=(h4 i a b ha hi).2 t htb
   exact⟨k.1,k.2.1⟩
 ·have k:=h3 t ht
  exact⟨k.1,k.2.1⟩
theorem XG {n:Nat} {l:List Task}:∀ {k:Nat} {hs:List Int} {r:Int},fM n l k=some (hs,r)→-1≤r∧r < k
 |0,hs,r,h=>by simp only[fM,Option.some.injEq,Prod.mk.injEq] at h;omega
 |k+1,hs,r,h=>by
  rcases e:fM n l k with _|⟨hs0,r0⟩
  ·simp[fM,e] at h
  ·rcases e2:l[k]? with _|t
   ·simp[fM,e,e2] at h
   ·have ih:=XG e
    simp only[fM,e,e2,yA] at h
    rcases e3:kQ n hs0 k t with _|a
    ·simp[e3] at h
    ·rcases e4:kR r0 k t with _|b
     ·simp[e4] at h
     ·simp only[e3,e4,Option.some.injEq,Prod.mk.injEq] at h
      unfold kR at e4
      split at e4
      ·split at e4
       ·simp at e4;omega
       ·cases e4
      ·simp at e4;omega
theorem L6 {l:List aQ} {t:Trail}:t∈allT l↔∃ s∈l,t∈s.l:=by unfold allT;exact List.mem_flatMap
theorem VA {x:Wld}:(Ho x∧(-1≤x.bS∧x.bS≤4)∧Y0 x)∧Yi x∧Xl x↔mO x:=by
 have hmem:∀ n,n∈Gw x↔(∃ t∈eO x,t.id=n)∨(∃ v∈x.cache,v.stamp=n)∨(∃ t∈x.tasks,t.stamp=n)∨∃ t∈allT x.st,t.stamp=n:=by
  intro n;unfold Gw;simp only[List.mem_append,List.mem_map]
 constructor
 ·rintro⟨⟨hv,hr,hd⟩,⟨h5,ht,hl⟩,hk,hn⟩
  refine⟨hv,h5,⟨?_,?_,?_⟩,?_,hl⟩
  ·intro i s hs t hts
   have hm:t∈allT x.st:=L6.2 ⟨s,List.mem_of_getElem? hs,hts⟩
   exact⟨hn _ ((hmem _).2 (.inr (.inr (.inr ⟨t,hm,rfl⟩)))),hk t hm⟩
  ·intro v hv2
   exact hn _ ((hmem _).2 (.inr (.inl ⟨v,hv2,rfl⟩)))
  ·intro t ht2
   have h1:=hn _ ((hmem _).2 (.inl ⟨t,ht2,rfl⟩))
   have h2:1≤t.id∧(1≤t.trace∧t.trace≤999):=by
    rcases List.mem_append.1 ht2 with h|h
    ·exact akf hv.2.2.2.2.2.2.2.2.2.2.2.2.1 t h
    ·exact hd t h
   omega
  ·intro k t hkt
   exact⟨ht k t hkt,hn _ ((hmem _).2 (.inr (.inr (.inl ⟨t,List.mem_of_getElem? hkt,rfl⟩))))⟩
 ·rintro⟨hv,h5,⟨hA,hB,hC⟩,hT,hl⟩
  obtain⟨hs,r,hlk,hh,hr⟩:=hl
  have hrb:=XG hlk
  refine⟨⟨hv,by omega,fun t ht=>?_⟩,⟨h5,fun k t hk=>(hT k t hk).1,hs,r,hlk,hh,hr⟩,fun t ht=>?_,fun n hn=>?_⟩
  ·have:=hC t (List.mem_append_right _ ht);omega
  ·obtain⟨s,hs,hts⟩:=L6.1 ht
   obtain⟨i,hi⟩:=List.mem_iff_getElem?.1 hs
   exact(hA i s hi t hts).2
  ·rcases(hmem n).1 hn with⟨t,ht,rfl⟩|⟨v,hv,rfl⟩|⟨t,ht,rfl⟩|⟨t,ht,rfl⟩
   ·have:=hC t ht;omega
   ·exact hB v hv
   ·obtain⟨i,hi⟩:=List.mem_iff_getElem?.1 ht
    exact(hT i t hi).2
   ·obtain⟨s,hs,hts⟩:=L6.1 ht
    obtain⟨i,hi⟩:=List.mem_iff_getElem?.1 hs
    exact(hA i s hi t hts).1
theorem ny {h:AH} {x:Wld} {cs:List AV} {F:List Nat} (ok:Cel.ok x) (hs:Sz.sz x≤67108864) (r:Cel.rep h x cs F):
  aM Tryz.prog jI [.agg cs] h (.bool (bp (mO x))):=by
 obtain⟨v0,v1,v2,v3,v4,v5,v6,v7,v8,v9,v10,F0,F1,F2,F3,F4,F5,F6,F7,F8,F9,F10,rfl,rfl,r0,r1,r2,r3,r4,r5,r6,r7,r8,r9,r10⟩:=r
 refine reader (afR _) (by simp only[old]) ?_
 unfold RO
 (repeat' first|refine vs ?_|((with_reducible refine aA DZ ?_);(refine aS (acK (x:=x) ok hs ⟨_,_,_,_,_,_,_,_,_,_,_,_,_,_,_,_,_,_,_,_,_,_,rfl,rfl,ah,ah,ah,ah,ah,ah,ah,ah,ah,ah,ah⟩) ?_ ?_<;>intro hn))|((with_reducible refine aA EI ?_);(refine aS (aeu (x:=x) ok hs ⟨_,_,_,_,_,_,_,_,_,_,_,_,_,_,_,_,_,_,_,_,_,_,rfl,rfl,ah,ah,ah,ah,ah,ah,ah,ah,ah,ah,ah⟩) ?_ ?_<;>intro hn))|((with_reducible refine aA D5 ?_);(refine aS (acL (x:=x) hs ⟨_,_,_,_,_,_,_,_,_,_,_,_,_,_,_,_,_,_,_,_,_,_,rfl,rfl,ah,ah,ah,ah,ah,ah,ah,ah,ah,ah,ah⟩) ?_ ?_<;>intro hn))|fail)
 all_goals first
  |exact pt (VA.1 ⟨by assumption,by assumption,by assumption⟩)
  |exact pf fun k=>by have k:=VA.2 k;first|exact absurd k.1 (by assumption)|exact absurd k.2.1 (by assumption)|exact absurd k.2.2 (by assumption)
end Go.Proofs.YtkdjapahgmflbaaGreat
end
section
set_option linter.unusedSimpArgs false
set_option linter.unusedVariables false
set_option maxHeartbeats 8000000
namespace Go.Proofs.YtkdjapahgmflbaaGreat
open Go Go.Ab
section
end
def iB (x:Wld) (trace:Int):Int:=match x.st[(stripe trace x.st.length).toNat]? with
 |some s=>s.held
 |none=>-1
theorem Gp {x:Wld} {trace:Int} {s:aQ} (h:x.st[(stripe trace x.st.length).toNat]? =some s):iB x trace=s.held:=by unfold iB;rw[h]
noncomputable def alL (x:Wld) (t:Task):Int:=
 if t.op=1∧t.pc=0 then iB x t.s.trace
 else if t.op=1∧t.pc=2 then(match oldest (allT x.st) with|some o=>iB x o.id|none=>-1)
 else if t.op=2∧t.pc=0 then iB x t.trace
 else if t.op=2∧t.pc=1 then x.bS else -1
noncomputable def waits (x:Wld) (k:Int):Int:=if bp (mO x∧(0≤k∧k≤4))=true then(match x.tasks[k.toNat]? with|some t=>alL x t|none=>-1) else -1
end Go.Proofs.YtkdjapahgmflbaaGreat
end
section
set_option linter.unusedSimpArgs false
set_option linter.unusedVariables false
set_option maxHeartbeats 4000000
namespace Go.Proofs.YtkdjapahgmflbaaGreat
open Go Go.Ab
section
end
def ig:Span:=⟨0,0,0,0,false,[]⟩
def kN:Task:=⟨0,0,ig,0,0,[],0⟩
end Go.Proofs.YtkdjapahgmflbaaGreat
end
section
set_option linter.unusedSimpArgs false
set_option linter.unusedVariables false
namespace Go.Proofs.YtkdjapahgmflbaaGreat
open Go Go.Ab
def wr (n:Int):Int:=IntKind.i64.wrap n
def Cr (a b:Int):Int:=cap (cap a - cap b)
def IJ (a b:Int):Int:=cap (cap a * cap b)
noncomputable def qI (b:Bucket) (now:Int):Bucket:=if bp (jB b∧b.at_≤now∧now≤2147483647)=true then⟨b.rate,b.bn,min (iK b.tokens (IJ b.rate (Cr now b.at_))) b.bn,now⟩ else b
noncomputable def nG (b:Bucket) (n:Int):Bool:=bp (jB b∧0≤n∧n≤b.tokens)
noncomputable def oZ (b:Bucket) (n:Int):Bucket:=if nG b n=true then{b with tokens:=b.tokens - n} else b
def lenOf (s:Span):Int:=Cr s.fin s.start
def errs (l:List Span):Nat:=(l.filter (·.err)).length
def nT (l:List Attr) (key:ByteArray):Option Attr:=l.find? fun a=>decide (a.key=key)
def Gi (key text:ByteArray) (s:Span):Prop:=∃ a,nT s.attrs key=some a∧a.num=false∧a.text=text
def Gz (key:ByteArray) (n:Int) (s:Span):Prop:=∃ a,nT s.attrs key=some a∧a.num=true∧n≤a.n
mutual
def gZ (l:List Span) (n:Int):Pol→Prop
 | .mk k pn key text ps=>(k=1→True)∧(k=2→0 < errs l)∧(k=3→∃ s∈l,pn≤lenOf s)∧(k=4→∃ s∈l,Gi key text s)∧(k=5→∃ s∈l,Gz key pn s)∧(k=6→(l.length:Int)≤n)∧(k=7→BJ l n ps)∧(k=8→BI l n ps)∧(k=9→Hg l n ps)∧(1≤k∧k≤9)
def BJ (l:List Span) (n:Int):List Pol→Prop
 |[]=>True
 |p::ps=>gZ l n p∧BJ l n ps
def BI (l:List Span) (n:Int):List Pol→Prop
 |[]=>False
 |p::ps=>gZ l n p∨BI l n ps
def Hg (l:List Span) (n:Int):List Pol→Prop
 |[]=>True
 |p::ps=>¬ gZ l n p
end
mutual
def lU:Pol→Prop
 | .mk k _ _ _ ps=>k=6∨Cj ps
def Cj:List Pol→Prop
 |[]=>False
 |p::ps=>lU p∨Cj ps
end
noncomputable def pq (p:Pol) (l:List Span) (n:Int):Bool:=bp (gZ l n p)
noncomputable def qK (p:Pol) (l:List Span) (n:Int):Int:=if pq p l n=true then(if bp (lU p)=true then min (l.length:Int) (cap n) else 0) else 0
def fH (w:bX) (t:Ab.Timer):bX:=
 if t.at_ / 8=w.now / 8 then{w with near:=upd w.near (t.at_ % 8).toNat (· ++[t])}
 else if t.at_ / 8 - w.now / 8 < 8 then{w with far:=upd w.far (t.at_ / 8 % 8).toNat (· ++[t])}
 else{w with rest:=w.rest++[t]}
noncomputable def rE (w:bX) (t:Ab.Timer):Bool:=bp ((jg w∧w.now < t.at_∧t.at_≤2147483647)∧jg (fH w t))
noncomputable def fA (w:bX) (t:Ab.Timer):bX:=if rE w t=true then fH w t else w
def without (id:Int) (l:List Ab.Timer):List Ab.Timer:=l.filter fun t=>!(ji id t)
noncomputable def iE (w:bX) (id:Int):bX:=if bp (jg w)=true then⟨w.now,w.near.map (without id),w.far.map (without id),without id w.rest⟩ else w
def wB (x:Wld) (k:Nat):Wld:=match x.due with
 |[]=>x
 |t::rest=>{x with due:=rest,tasks:=x.tasks.set k ⟨2,0,ig,t.trace,t.id,[],x.aF.length⟩,aF:=x.aF++[⟨2,k,ig,t.trace,t.id,0,false,false,0,0,0,x.w.now,x.time,-1,-1⟩],time:=wr (x.time+1)}
def om (x:Wld) (k:Nat) (t:Task) (code stamp:Int):Wld:={x with aF:=upd x.aF t.h.toNat (fun d=>{d with code:=code,stamp:=stamp,lin:=x.time,res:=x.time,now:=x.w.now}),st:=gy x.st t.s.trace (-1),tasks:=x.tasks.set k kN}
def jA (x:Wld) (t:Task):Int:=if eG x.st t.s.trace=true then(cO x.st t.s.trace).stamp else x.next
noncomputable def jQ (x:Wld) (t:Task):Wld:={x with
 next:=if eG x.st t.s.trace=true then x.next else wr (x.next+1)
 w:=if eG x.st t.s.trace=true then x.w else fA x.w ⟨x.next,t.s.trace,iK x.w.now x.c.wait⟩
 st:=upd x.st (stripe t.s.trace x.st.length).toNat fun s=>{s with l:=lN s.l t.s (jA x t) x.w.now}
 used:=wr (x.used+dW t.s)}
noncomputable def lookW (x:Wld) (k:Nat) (t:Task):Option Wld:=
 if x.shut=true then some (om x k t 4 0)
 else if(vOf x.cache t.s.trace).2=true then
  (if(vOf x.cache t.s.trace).1.keep=true then
   (if x.c.queue≤(x.queue.length:Int) then none else some (om {x with queue:=x.queue++[⟨(vOf x.cache t.s.trace).1.stamp,t.s⟩]} k t 2 (vOf x.cache t.s.trace).1.stamp))
  else some (om x k t 3 (vOf x.cache t.s.trace).1.stamp))
 else if x.c.budget < wr (x.used+dW t.s) then some {x with st:=gy x.st t.s.trace (-1),tasks:=x.tasks.set k {t with pc:=2}}
 else some (om (jQ x t) k t 1 (jA x t))
noncomputable def qV (x:Wld) (k:Nat) (t:Task):Option Wld:=match oldest (allT x.st) with
 |none=>some {x with tasks:=x.tasks.set k {t with pc:=0}}
 |some o=>if iB x o.id≠-1 then none else some {x with st:=gy x.st o.id k,tasks:=x.tasks.set k {t with pc:=3,trace:=o.id,stamp:=o.stamp}}
noncomputable def mQ (x:Wld) (o:Trail) (keep:Bool):Wld:={x with st:=gN x.st o.id,used:=wr (x.used - jK o),cache:=(rem x.cache ⟨o.id,o.stamp,keep⟩ x.c.cache).1}
noncomputable def iX (x:Wld) (o:Trail) (keep:Bool):Int:=(rem x.cache ⟨o.id,o.stamp,keep⟩ x.c.cache).2
noncomputable def jl (x:Wld) (t:Task) (k:Nat):Wld:=
 if eG x.st t.trace=true∧(cO x.st t.trace).stamp=t.stamp∧x.c.budget < wr (x.used+dW t.s) then
  {mQ x (cO x.st t.trace) false with
   w:=iE x.w (cO x.st t.trace).stamp
   aF:=x.aF++[⟨3,k,ig,(cO x.st t.trace).id,(cO x.st t.trace).stamp,0,false,false,0,(cO x.st t.trace).spans.length,iX x (cO x.st t.trace) false,x.w.now,x.time,x.time,x.time⟩]}
 else x
noncomputable def ng (x:Wld) (k:Nat) (t:Task):Wld:={jl x t k with st:=gy (jl x t k).st t.trace (-1),tasks:=x.tasks.set k {t with pc:=0,trace:=0,stamp:=0}}
noncomputable def iF (x:Wld) (k:Nat) (t:Task):Option Wld:=
 if t.pc=0 then(if iB x t.s.trace≠-1 then none else some {x with st:=gy x.st t.s.trace k,tasks:=x.tasks.set k {t with pc:=1}})
 else if t.pc=1 then lookW x k t
 else if t.pc=2 then qV x k t
 else some (ng x k t)
def fu (x:Wld):Wld:={x with time:=wr (x.time+1)}
noncomputable def vY (x:Wld) (t:Task):Prop:=eG x.st t.trace=true∧(cO x.st t.trace).stamp=t.stamp
noncomputable def zx (x:Wld):Bucket:=qI x.b x.w.now
noncomputable def nV (x:Wld) (t:Task):Bool:=pq x.c.rule (cO x.st t.trace).spans (zx x).tokens
noncomputable def uz (x:Wld) (t:Task):Int:=qK x.c.rule (cO x.st t.trace).spans (zx x).tokens
noncomputable def lS (x:Wld) (t:Task):List Itm:=if nV x t=true then(cO x.st t.trace).spans.map fun s=>⟨t.stamp,s⟩ else[]
def wL (x:Wld) (k:Nat) (t:Task) (hand:List Itm):Wld:={x with
 st:=gy x.st t.trace (-1),bS:=-1
 aF:=if hand.length=0 then upd x.aF t.h.toNat (fun d=>{d with res:=x.time}) else x.aF
 tasks:=if hand.length=0 then x.tasks.set k kN else x.tasks.set k {t with pc:=3,hand:=hand}}
noncomputable def nU (x:Wld) (k:Nat) (t:Task):Wld:=
 if bp (vY x t)=true then
  wL {mQ x (cO x.st t.trace) (nV x t) with
   b:=oZ (zx x) (uz x t)
   aF:=upd x.aF t.h.toNat fun d=>{d with keep:=nV x t,took:=uz x t,n:=(cO x.st t.trace).spans.length,forgot:=iX x (cO x.st t.trace) (nV x t),lin:=x.time,now:=x.w.now}} k t (lS x t)
 else wL {x with aF:=upd x.aF t.h.toNat fun d=>{d with void:=true,lin:=x.time,now:=x.w.now}} k t []
def qY (x:Wld) (k:Nat) (t:Task):Option Wld:=match t.hand with
 |[]=>none
 |y::ys=>if x.c.queue≤(x.queue.length:Int) then none else some {x with
   queue:=x.queue++[y]
   aF:=if ys.length=0 then upd x.aF t.h.toNat (fun d=>{d with res:=x.time}) else x.aF
   tasks:=if ys.length=0 then x.tasks.set k kN else x.tasks.set k {t with hand:=ys}}
noncomputable def iG (x:Wld) (k:Nat) (t:Task):Option Wld:=
 if t.pc=0 then(if iB x t.trace≠-1 then none else some {x with st:=gy x.st t.trace k,tasks:=x.tasks.set k {t with pc:=1}})
 else if t.pc=1 then(if x.bS≠-1 then none else some {x with bS:=k,tasks:=x.tasks.set k {t with pc:=2}})
 else if t.pc=2 then some (nU x k t)
 else qY x k t
end Go.Proofs.YtkdjapahgmflbaaGreat
end
