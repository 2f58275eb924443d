import Derived.Test.YtcgjihfngdhjjaaGreatDW118
import Derived.Test.YtcgjihfngdhjjaaGreatDW60
section
set_option linter.unusedSimpArgs false
set_option linter.unusedVariables false
namespace Go.Proofs.YtcgjihfngdhjjaaGreat
open Go Go.Ab
structure NB (x:Wld):Prop where
 n:x.shut=false→∀ d∈x.aF,d.op≠4∧(d.op=1→d.lin≠-1→d.code≠4)
 s:x.shut=true→∃ (j:Nat) (e:aW),x.aF[j]? =some e∧e.op=4∧e.lin≠-1∧(∀ (i:Nat) (d:aW),x.aF[i]? =some d→d.op=4→i=j)∧∀ d∈x.aF,d.op=1→d.lin≠-1→d.code≠5→(d.code=4↔e.lin < d.lin)∧d.lin≠e.lin
def vK (x:Wld) (d d':aW):Prop:=d'.op=d.op∧(d.op=4→d'.lin=d.lin)∧(d.op=1→(d'.lin=d.lin∧d'.code=d.code)∨(d'.lin=x.time∧(d'.code=4↔x.shut=true)))
section
variable{x y:Wld} {k:Nat} {t t':Task}
theorem NB.map (h:NB x) (hI:WI x) (hs:y.shut=x.shut) (hd:∀ (i:Nat) (d':aW),y.aF[i]? =some d'→∃ d,x.aF[i]? =some d∧vK x d d') (hl:x.aF.length≤y.aF.length):NB y:=by
 refine⟨fun q d' hd'=>?_,fun q=>?_⟩
 ·rw[hs] at q
  obtain⟨i,hi⟩:=List.mem_iff_getElem?.1 hd'
  obtain⟨d,hx,e1,e2,e3⟩:=hd i d' hi
  obtain⟨g1,g2⟩:=h.n q d (List.mem_of_getElem? hx)
  refine⟨by rw[e1];exact g1,fun o l=>?_⟩
  rw[e1] at o
  rcases e3 o with⟨p1,p2⟩|⟨p1,p2⟩
  ·rw[p2];exact g2 o (by rw[←p1];exact l)
  ·intro c;rw[p2.1 c] at q;cases q
 ·rw[hs] at q
  obtain⟨j,e,hj,o4,hl4,hu,ha⟩:=h.s q
  have hjl:=(List.getElem?_eq_some_iff.1 hj).1
  obtain⟨e',he'⟩:∃ e',y.aF[j]? =some e':=⟨y.aF[j]'(by omega),List.getElem?_eq_getElem _⟩
  obtain⟨d,hx,e1,e2,e3⟩:=hd j e' he'
  rw[hj] at hx;cases hx
  have hle:=e2 o4
  have het:=(hI.aF e (List.mem_of_getElem? hj)).2.2.1
  refine⟨j,e',he',by rw[e1];exact o4,by rw[hle];exact hl4,fun i d' hi o=>?_,fun d' hd' o l c=>?_⟩
  ·obtain⟨d,hx,f1,-⟩:=hd i d' hi
   exact hu i d hx (by rw[←f1];exact o)
  ·obtain⟨i,hi⟩:=List.mem_iff_getElem?.1 hd'
   obtain⟨d,hx,f1,f2,f3⟩:=hd i d' hi
   rw[f1] at o
   rw[hle]
   rcases f3 o with⟨p1,p2⟩|⟨p1,p2⟩
   ·rw[p1,p2];exact ha d (List.mem_of_getElem? hx) o (by rw[←p1];exact l) (by rw[←p2];exact c)
   ·rw[p1];exact⟨⟨fun _=>het,fun _=>p2.2 q⟩,by omega⟩
theorem NB.app (h:NB x) (hs:y.shut=x.shut) {e:aW} (hd:y.aF=x.aF++[e]) (h4:e.op≠4) (h1:e.op=1→e.lin= -1∨e.code=5):NB y:=by
 refine⟨fun q d' hd'=>?_,fun q=>?_⟩
 ·rw[hs] at q;rw[hd] at hd'
  rcases List.mem_append.1 hd' with p|p
  ·exact h.n q d' p
  ·rw[List.mem_singleton.1 p]
   refine⟨h4,fun o l=>?_⟩
   rcases h1 o with r|r
   ·exact absurd r l
   ·rw[r];decide
 ·rw[hs] at q
  obtain⟨j,f,hj,o4,hl4,hu,ha⟩:=h.s q
  rw[hd]
  refine⟨j,f,Hg hj,o4,hl4,fun i d' hi o=>?_,fun d' hd' o l c=>?_⟩
  ·rw[List.getElem?_append] at hi
   split at hi
   ·exact hu i d' hi o
   ·have:=List.mem_of_getElem? hi
    rw[List.mem_singleton.1 this] at o
    exact absurd o h4
  ·rcases List.mem_append.1 hd' with p|p
   ·exact ha d' p o l c
   ·rw[List.mem_singleton.1 p] at o l c
    rcases h1 o with r|r
    ·exact absurd r l
    ·exact absurd r c
theorem NB.same (h:NB x) (hs:y.shut=x.shut) (hd:y.aF=x.aF):NB y:=⟨by rw[hs,hd];exact h.n,by rw[hs,hd];exact h.s⟩
theorem NB.tm (h:NB x):NB (cB x):=h.same rfl rfl
theorem MJ {d:aW}:vK x d d:=⟨rfl,fun _=>rfl,fun _=>.inl ⟨rfl,rfl⟩⟩
theorem XU {i:Nat} {f:aW→aW} (hf:∀ d,x.aF[i]? =some d→vK x d (f d)):∀ (j:Nat) (d':aW),(upd x.aF i f)[j]? =some d'→∃ d,x.aF[j]? =some d∧vK x d d':=fun j d' hj=>by
 cases hi:x.aF[i]? with
 |none=>unfold upd at hj;rw[hi] at hj;exact⟨d',hj,MJ⟩
 |some a=>
  rw[gV hi,List.getElem?_set] at hj
  split at hj
  ·rename_i e
   split at hj
   ·cases hj;exact⟨a,by rw[←e];exact hi,hf a hi⟩
   ·cases hj
  ·exact⟨d',hj,MJ⟩
theorem NB.offer (h:NB x) {s:Span}:NB (pF x k s):=by
 unfold pF
 split
 ·exact h.app rfl rfl (by show(1:Int)≠4;decide) fun _=>.inl rfl
 ·exact h.app rfl rfl (by show(1:Int)≠4;decide) fun _=>.inr rfl
theorem NB.begin (h:NB x):NB (mE x k):=by
 unfold mE
 split
 ·exact h
 ·exact h.app rfl rfl (by show(2:Int)≠4;decide) fun q=>absurd q (by show¬ (2:Int)=1;decide)
theorem NB.lX {z:Wld} (h:NB x) (hI:WI x) (ht:x.tasks[k]? =some t) (hop:t.op=1) {code stamp:Int} (hz:z.aF=x.aF) (hs:z.shut=x.shut) (htm:z.time=x.time) (hc:code=4↔x.shut=true):NB (lT z k t code stamp):=by
 obtain⟨d0,hd0,hf,-⟩:=hI.own ht (by omega)
 refine h.map hI hs (fun j d' hj=>?_) (by show _≤(upd z.aF _ _).length;rw[mh,hz];exact Nat.le_refl _)
 have hj:(upd x.aF t.h.toNat fun d=>{d with code:=code,stamp:=stamp,lin:=x.time,res:=x.time,now:=z.w.now})[j]? =some d':=by
  rw[←hz,←htm];exact hj
 refine XU (f:=fun d=>{d with code:=code,stamp:=stamp,lin:=x.time,res:=x.time,now:=z.w.now}) (fun d hd=>⟨rfl,fun o=>?_,fun _=>.inr ⟨rfl,hc⟩⟩) j d' hj
 rw[hd0] at hd;cases hd
 rcases hf.2.2.2 with r|r
 ·have:=r.2.1;omega
 ·have:=r.1;omega
theorem NB.xW (h:NB x) (hI:WI x) (ht:x.tasks[k]? =some t) (hop:t.op=1) (hy:jl x k t=some y):NB y:=by
 unfold jl at hy
 split at hy
 ·split at hy
  ·cases hy
  ·cases hy;exact h.same rfl rfl
 split at hy
 ·unfold lookW at hy
  split at hy
  ·rename_i hsh
   cases hy;exact h.lX hI ht hop rfl rfl rfl ⟨fun _=>hsh,fun _=>rfl⟩
  rename_i hsh
  have no:∀ c:Int,c≠4→(c=4↔x.shut=true):=fun c hc=>⟨fun q=>absurd q hc,fun q=>absurd q hsh⟩
  split at hy
  ·split at hy
   ·split at hy
    ·cases hy
    ·cases hy
     exact h.lX hI ht hop rfl rfl rfl (no _ (by decide))
   ·cases hy;exact h.lX hI ht hop rfl rfl rfl (no _ (by decide))
  split at hy
  ·cases hy;exact h.same rfl rfl
  ·cases hy;exact h.lX hI ht hop rfl rfl rfl (no _ (by decide))
 split at hy
 ·unfold pQ at hy
  split at hy
  ·cases hy;exact h.same rfl rfl
  ·split at hy
   ·cases hy
   ·cases hy;exact h.same rfl rfl
 ·cases hy
  have hd:NB (jY x t k):=by
   unfold jY
   split
   ·exact h.app rfl rfl (by show(3:Int)≠4;decide) fun q=>absurd q (by show¬ (3:Int)=1;decide)
   ·exact h
  exact hd.same rfl rfl
theorem XV {z:Wld} {i:Nat} {a:Int} (hz:∀ (j:Nat) (d':aW),z.aF[j]? =some d'→∃ d,x.aF[j]? =some d∧vK x d d'):∀ (j:Nat) (d':aW),(upd z.aF i (fun d=>{d with res:=a}))[j]? =some d'→∃ d,x.aF[j]? =some d∧vK x d d':=fun j d' hj=>by
 cases hi:z.aF[i]? with
 |none=>unfold upd at hj;rw[hi] at hj;exact hz j d' hj
 |some b=>
  rw[gV hi,List.getElem?_set] at hj
  split at hj
  ·rename_i e
   split at hj
   ·cases hj
    obtain⟨d,hd,g⟩:=hz i b hi
    exact⟨d,by rw[←e];exact hd,g⟩
   ·cases hj
  ·exact hz j d' hj
theorem NB.pW {z:Wld} (h:NB x) (hI:WI x) (hs:z.shut=x.shut) (hl:z.aF.length=x.aF.length) (hz:∀ (j:Nat) (d':aW),z.aF[j]? =some d'→∃ d,x.aF[j]? =some d∧vK x d d') {hand:List Itm}:NB (mQ z k t hand):=by
 unfold mQ
 by_cases hq:hand.length=0
 ·simp only[hq,if_true]
  exact h.map hI hs (XV hz) (by show _≤(upd z.aF _ _).length;rw[mh,hl];exact Nat.le_refl _)
 ·simp only[hq,if_false]
  exact h.map hI hs hz (by show _≤z.aF.length;omega)
theorem NB.say (h:NB x) (hI:WI x) (ht:x.tasks[k]? =some t) (hop:t.op=2):NB (kG x k t):=by
 obtain⟨d0,hd0,hf,-⟩:=hI.own ht (by omega)
 have o2:d0.op=2:=by
  rcases hf.2.2.2 with r|r
  ·have:=r.1;omega
  ·exact r.2.1
 have st:∀ (f:aW→aW),(f d0).op=d0.op→∀ (j:Nat) (d':aW),(upd x.aF t.h.toNat f)[j]? =some d'→∃ d,x.aF[j]? =some d∧vK x d d':=fun f h1=>XU fun d hd=>by
  rw[hd0] at hd;cases hd
  exact⟨h1,fun o=>by omega,fun o=>by omega⟩
 unfold kG
 split
 ·refine NB.pW h hI ?_ ?_ ?_
  ·rfl
  ·exact mh
  ·refine st _ ?_
   rfl
 ·refine NB.pW h hI ?_ ?_ ?_
  ·rfl
  ·exact mh
  ·refine st _ ?_
   rfl
theorem NB.xX (h:NB x) (hI:WI x) (ht:x.tasks[k]? =some t) (hop:t.op=2) (hy:jm x k t=some y):NB y:=by
 unfold jm at hy
 split at hy
 ·split at hy
  ·cases hy
  ·cases hy;exact h.same rfl rfl
 split at hy
 ·split at hy
  ·cases hy
  ·cases hy;exact h.same rfl rfl
 split at hy
 ·cases hy;exact h.say hI ht hop
 ·unfold pR at hy
  split at hy
  ·cases hy
  ·split at hy
   ·cases hy
   ·rename_i a ys _ _
    cases hy
    by_cases hq:ys.length=0
    ·simp only[hq,if_true]
     exact h.map hI rfl (XV fun j d' hj=>⟨d',hj,MJ⟩) (by show _≤(upd x.aF _ _).length;rw[mh];exact Nat.le_refl _)
    ·simp only[hq,if_false]
     exact h.same rfl rfl
theorem NB.CY (h:NB x) (hI:WI x) (hy:nO x=some y):NB y:=by
 unfold nO at hy
 split at hy
 ·cases hy
 ·rename_i hsh
  cases hy
  have hf:x.shut=false:=by simpa using hsh
  refine NB.tm ⟨fun q=>(by cases q),fun _=>⟨x.aF.length,xI x,by show(x.aF++[xI x])[x.aF.length]? =_;rw[List.getElem?_append_right (Nat.le_refl _)];simp,rfl,by show x.time≠-1;have:=hI.time;omega,fun i d hi o=>?_,fun d hd o l c=>?_⟩⟩
  ·have hi:(x.aF++[xI x])[i]? =some d:=hi
   rw[List.getElem?_append] at hi
   split at hi
   ·exact absurd o (h.n hf d (List.mem_of_getElem? hi)).1
   ·have:=(List.getElem?_eq_some_iff.1 hi).1
    simp only[List.length_singleton] at this;omega
  ·have hd:d∈x.aF++[xI x]:=hd
   rcases List.mem_append.1 hd with p|p
   ·have h1:=(h.n hf d p).2 o l
    have h2:=(hI.aF d p).2.2.1
    show(d.code=4↔x.time < d.lin)∧d.lin≠x.time
    exact⟨⟨fun q=>absurd q h1,fun q=>by omega⟩,by omega⟩
   ·rw[List.mem_singleton.1 p] at o;cases o
end
end Go.Proofs.YtcgjihfngdhjjaaGreat
end
section
set_option linter.unusedSimpArgs false
set_option linter.unusedVariables false
namespace Go.Proofs.YtcgjihfngdhjjaaGreat
open Go Go.Ab
noncomputable def qR (x:Wld) (k:Nat) (t:Task):Option Wld:=
 if t.op=1 then(jl x k t).map cB
 else if t.op=2 then(jm x k t).map cB
 else if(k:Int) < 3∨x.due.length=0 then none else some (mE x k)
end Go.Proofs.YtcgjihfngdhjjaaGreat
end
section
set_option linter.unusedSimpArgs false
set_option linter.unusedVariables false
namespace Go.Proofs.YtcgjihfngdhjjaaGreat
open Go Go.Ab
def dz (M:Nat) (s:Span):Prop:=Sz.sz s≤M∧Cel.ok s
def tz (M:Nat) (t:Task):Prop:=Sz.sz t.s≤M∧t.hand.length≤200
structure RI (n M:Nat) (x:Wld):Prop where
 wi:WI x
 ti:TI x
 nb:NB x
 tm:x.time≤n
 nx:x.next≤n+1
 od:x.out.length≤n
 dd:x.aF.length≤n
 du:x.due.length+(timers x.w).length≤n
 ds:∀ d∈x.aF,dz M d.s
 ts:∀ t∈x.tasks,tz M t
section
variable{x y:Wld} {k n M:Nat} {t t':Task}
theorem RI.sml (h:RI n M x) (hn:n < 1000000):Sml x:=⟨by have:=h.tm;omega,by have:=h.nx;omega⟩
theorem RI.xH (h:RI n M x) (hn:n < 1000000):wr (x.time+1)=x.time+1:=xE (by have:=h.wi.time;omega) (by have:=h.tm;omega)
structure Grow (M:Nat) (x y:Wld):Prop where
 tm:y.time≤x.time+1
 nx:y.next≤x.next+1
 od:y.out.length≤x.out.length+1
 dd:y.aF.length≤x.aF.length+1
 du:y.due.length+(timers y.w).length≤x.due.length+(timers x.w).length+1
 ds:(∀ d∈x.aF,dz M d.s)→∀ d∈y.aF,dz M d.s
 ts:(∀ t∈x.tasks,tz M t)→∀ t∈y.tasks,tz M t
theorem RI.next (h:RI n M x) (g:Grow M x y) (h1:WI y) (h2:TI y) (h3:NB y):RI (n+1) M y:=
 ⟨h1,h2,h3,by have:=h.tm;have:=g.tm;omega,by have:=h.nx;have:=g.nx;omega,by have:=h.od;have:=g.od;omega,by have:=h.dd;have:=g.dd;omega,by have:=h.du;have:=g.du;omega,g.ds h.ds,g.ts h.ts⟩
theorem Ib {l:List aW} {i:Nat} {f:aW→aW} (hf:∀ d,(f d).s=d.s) (h:∀ d∈l,dz M d.s):∀ d∈upd l i f,dz M d.s:=fun d hd=>by
 rcases ail hd with q|⟨a,ha,e⟩
 ·exact h d q
 ·rw[e,hf];exact h a (List.mem_of_getElem? ha)
theorem CK {l:List aW} {e:aW} (he:dz M e.s) (h:∀ d∈l,dz M d.s):∀ d∈l++[e],dz M d.s:=fun d hd=>by
 rcases List.mem_append.1 hd with q|q
 ·exact h d q
 ·rw[List.mem_singleton.1 q];exact he
theorem sS {l:List Task} (h:∀ t∈l,tz M t) (ht:tz M t'):∀ t∈l.set k t',tz M t:=fun t hm=>by
 rcases List.mem_or_eq_of_mem_set hm with q|q
 ·exact h t q
 ·rw[q];exact ht
theorem MW:Sz.sz iA≤M:=Nat.zero_le _
theorem M5:dz M iA:=⟨MW,⟨by decide,by decide⟩,⟨by decide,by decide⟩,⟨by decide,by decide⟩,⟨by decide,by decide⟩,fun a ha=>(by cases ha)⟩
theorem Ik:tz M dX:=⟨MW,Nat.zero_le _⟩
structure Gr (M:Nat) (x y:Wld):Prop where
 tm:y.time=x.time
 nx:y.next≤x.next+1
 od:y.out.length≤x.out.length+1
 dd:y.aF.length≤x.aF.length+1
 du:y.due.length+(timers y.w).length≤x.due.length+(timers x.w).length+1
 ds:(∀ d∈x.aF,dz M d.s)→∀ d∈y.aF,dz M d.s
 ts:(∀ t∈x.tasks,tz M t)→∀ t∈y.tasks,tz M t
theorem Gr.tick (g:Gr M x y) (hw:wr (x.time+1)=x.time+1):Grow M x (cB y):=
 ⟨by show wr (y.time+1)≤_;rw[g.tm,hw];exact Int.le_refl _,g.nx,g.od,g.dd,g.du,g.ds,g.ts⟩
theorem Gr.refl:Gr M x x:=⟨rfl,by omega,by omega,by omega,by omega,id,id⟩
theorem Gr.tk (ht:x.tasks[k]? =some t) (hs:t'.s=t.s) (hh:t'.hand=t.hand) {st':List aR} {r':Int}:Gr M x {x with st:=st',bg:=r',tasks:=x.tasks.set k t'}:=
 ⟨rfl,by show x.next≤_;omega,by show x.out.length≤_;omega,by show x.aF.length≤_;omega,by show x.due.length+(timers x.w).length≤_;omega,id,fun h=>sS h (by unfold tz;rw[hs,hh];exact h t (List.mem_of_getElem? ht))⟩
theorem Gr.lX {z:Wld} (g:Gr M x z) {code stamp:Int} (hz:z.tasks=x.tasks):Gr M x (lT z k t code stamp):=
 ⟨g.tm,g.nx,g.od,by show(upd z.aF _ _).length≤_;rw[mh];exact g.dd,g.du,fun h=>Ib (fun _=>rfl) (g.ds h),fun h=>by
  show ∀ u∈z.tasks.set k dX,tz M u
  rw[hz];exact sS h Ik⟩
theorem ah8 {w:bn} {u:Ab.Timer}:(timers (gX w u)).length≤(timers w).length+1:=by
 unfold gX
 split
 ·rename_i hp
  have:=oU hp
  rw[(BZ (iw.1 this.1.1) this.1.2.1).length_eq,List.length_cons];exact Nat.le_refl _
 ·omega
theorem Gr.hold (hw:wr (x.next+1)=x.next+1):Gr M x (lu x t):=by
 unfold lu
 refine⟨rfl,?_,by show x.out.length≤_;omega,by show x.aF.length≤_;omega,?_,id,id⟩
 ·show(if fH x.st t.s.trace=true then x.next else wr (x.next+1))≤x.next+1
  rw[hw];split<;>omega
 ·show x.due.length+(timers (if fH x.st t.s.trace=true then x.w else gX x.w ⟨x.next,t.s.trace,cK x.w.now x.c.wait⟩)).length≤x.due.length+(timers x.w).length+1
  split
  ·omega
  ·have:=ah8 (w:=x.w) (u:=⟨x.next,t.s.trace,cK x.w.now x.c.wait⟩);omega
theorem Gr.xW (hI:WI x) (ht:x.tasks[k]? =some t) (hw:wr (x.next+1)=x.next+1) (hy:jl x k t=some y):Gr M x y:=by
 unfold jl at hy
 split at hy
 ·split at hy
  ·cases hy
  ·cases hy;refine Gr.tk ht ?_ ?_<;>rfl
 split at hy
 ·unfold lookW at hy
  split at hy
  ·cases hy;exact Gr.refl.lX rfl
  split at hy
  ·split at hy
   ·split at hy
    ·cases hy
    ·cases hy
     exact Gr.lX (x:=x) (z:={x with queue:=x.queue++[⟨(vOf x.cache t.s.trace).1.stamp,t.s⟩]}) ⟨rfl,by show x.next≤_;omega,by show x.out.length≤_;omega,by show x.aF.length≤_;omega,by show x.due.length+(timers x.w).length≤_;omega,id,id⟩ rfl
   ·cases hy;exact Gr.refl.lX rfl
  split at hy
  ·cases hy;refine Gr.tk ht ?_ ?_<;>rfl
  ·cases hy;exact(Gr.hold hw).lX rfl
 split at hy
 ·unfold pQ at hy
  split at hy
  ·cases hy;refine Gr.tk ht ?_ ?_<;>rfl
  ·split at hy
   ·cases hy
   ·cases hy;refine Gr.tk ht ?_ ?_<;>rfl
 ·cases hy
  have hwi:=iw.1 hI.w
  have hd:Gr M x (jY x t k)∧(jY x t k).tasks=x.tasks:=by
   unfold jY
   split
   ·refine⟨⟨rfl,by show x.next≤_;omega,by show x.out.length≤_;omega,by show(x.aF++[_]).length≤_;simp,?_,fun h=>CK M5 h,id⟩,rfl⟩
    show x.due.length+(timers (eP x.w _)).length≤_
    rw[Gw hwi]
    have:=List.length_filter_le (fun u=>!(nQ (dY x.st t.trace).stamp u)) (timers x.w)
    unfold without;omega
   ·exact⟨Gr.refl,rfl⟩
  exact⟨hd.1.tm,hd.1.nx,hd.1.od,hd.1.dd,hd.1.du,hd.1.ds,fun h=>sS h ⟨(h t (List.mem_of_getElem? ht)).1,(h t (List.mem_of_getElem? ht)).2⟩⟩
theorem Gr.pW {z:Wld} (g:Gr M x z) (hz:z.tasks=x.tasks) (ht:x.tasks[k]? =some t) {hand:List Itm} (hh:hand.length≤200):Gr M x (mQ z k t hand):=by
 unfold mQ
 by_cases hq:hand.length=0
 ·simp only[hq,if_true]
  exact⟨g.tm,g.nx,g.od,by show(upd z.aF _ _).length≤_;rw[mh];exact g.dd,g.du,fun h=>Ib (fun _=>rfl) (g.ds h),fun h=>by
   show ∀ u∈z.tasks.set k dX,tz M u
   rw[hz];exact sS h Ik⟩
 ·simp only[hq,if_false]
  exact⟨g.tm,g.nx,g.od,g.dd,g.du,g.ds,fun h=>by
   show ∀ u∈z.tasks.set k {t with pc:=3,hand:=hand},tz M u
   rw[hz];exact sS h ⟨(h t (List.mem_of_getElem? ht)).1,hh⟩⟩
theorem WI.YM (h:WI x) {o:Trail} (ho:o∈allT x.st):o.spans.length≤15:=by
 have h1:12 * (o.spans.length:Int)≤dW o:=GX (by decide) fun s _=>KR s
 have h2:dW o≤held x.st:=by
  unfold held
  obtain⟨l1,l2,e⟩:=List.append_of_mem ho
  rw[e,qG]
  have a1:=wU (f:=dW) (l:=l1) fun t _=>Fh t
  have a2:=wU (f:=dW) (l:=l2) fun t _=>Fh t
  simp only[bD];omega
 have h3:=h.used;have h4:=h.budget;have h5:=h.conf.2.2.1
 omega
theorem WI.hand (h:WI x):(zL x t)→(qY x t).length≤15:=fun hit=>by
 obtain⟨o,ho⟩:∃ o,dP x.st t.trace=some o:=by have:=hit.1;unfold fH at this;exact Option.isSome_iff_exists.1 this
 have:=h.YM (zw ho).1
 have e:=(kP ho).1
 unfold qY
 rw[e]
 split
 ·rw[List.length_map];exact this
 ·exact Nat.zero_le _
theorem Gr.say (hI:WI x) (ht:x.tasks[k]? =some t):Gr M x (kG x k t):=by
 have st:∀ (z:Wld) (f:aW→aW),(∀ d,(f d).s=d.s)→z.time=x.time→z.next=x.next→z.out=x.out→z.due=x.due→z.w=x.w→z.tasks=x.tasks→z.aF=upd x.aF t.h.toNat f→Gr M x z:=fun z f hf e1 e2 e3 e4 e5 e6 e7=>
  ⟨e1,by rw[e2];omega,by rw[e3];omega,by rw[e7,mh];omega,by rw[e4,e5];omega,fun h=>by rw[e7];exact Ib hf h,fun h=>by rw[e6];exact h⟩
 unfold kG
 split
 ·rename_i hit
  refine Gr.pW ?_ ?_ ht (by have:=hI.hand (oU hit);omega)
  ·refine st _ _ ?_ rfl rfl rfl rfl rfl rfl rfl
   exact fun _=>rfl
  ·rfl
 ·refine Gr.pW ?_ ?_ ht (Nat.zero_le _)
  ·refine st _ _ ?_ rfl rfl rfl rfl rfl rfl rfl
   exact fun _=>rfl
  ·rfl
theorem Gr.xX (hI:WI x) (ht:x.tasks[k]? =some t) (hy:jm x k t=some y):Gr M x y:=by
 unfold jm at hy
 split at hy
 ·split at hy
  ·cases hy
  ·cases hy;refine Gr.tk ht ?_ ?_<;>rfl
 split at hy
 ·split at hy
  ·cases hy
  ·cases hy;refine Gr.tk ht ?_ ?_<;>rfl
 split at hy
 ·cases hy;exact Gr.say hI ht
 ·unfold pR at hy
  split at hy
  ·cases hy
  ·split at hy
   ·cases hy
   ·rename_i a ys hyy _
    cases hy
    by_cases hq:ys.length=0
    ·simp only[hq,if_true]
     exact⟨rfl,by show x.next≤_;omega,by show x.out.length≤_;omega,by show(upd x.aF _ _).length≤_;rw[mh];omega,by show x.due.length+(timers x.w).length≤_;omega,fun h=>Ib (fun _=>rfl) h,fun h=>sS h Ik⟩
    ·simp only[hq,if_false]
     exact⟨rfl,by show x.next≤_;omega,by show x.out.length≤_;omega,by show x.aF.length≤_;omega,by show x.due.length+(timers x.w).length≤_;omega,id,fun h=>sS h ⟨(h t (List.mem_of_getElem? ht)).1,by have q2:=(h t (List.mem_of_getElem? ht)).2;show ys.length≤200;rw[hyy,List.length_cons] at q2;omega⟩⟩
end
end Go.Proofs.YtcgjihfngdhjjaaGreat
end
section
set_option linter.unusedSimpArgs false
set_option linter.unusedVariables false
namespace Go.Proofs.YtcgjihfngdhjjaaGreat
open Go Go.Ab
section
variable{x y:Wld} {k n M:Nat} {t t':Task}
theorem RI.aj0 (h:RI n M x) (hn:n < 1000000):wr (x.next+1)=x.next+1:=xE (by have:=h.wi.next;omega) (by have:=h.nx;omega)
theorem RI.ajq (h:RI n M x) (hn:n < 1000000) (ht:x.tasks[k]? =some t) (h0:t.op=0) (hk:k < 3) {s:Span} (hs:dz M s):RI (n+1) M (pF x k s):=by
 have hw:=h.xH hn
 refine h.next ?_ (h.wi.offer (h.sml hn) ht h0 hk) h.ti.offer h.nb.offer
 unfold pF
 split
 ·exact⟨by show wr (x.time+1)≤_;rw[hw];exact Int.le_refl _,by show x.next≤_;omega,by show x.out.length≤_;omega,by show(x.aF++[_]).length≤_;simp,by show x.due.length+(timers x.w).length≤_;omega,fun q=>CK hs q,fun q=>sS q ⟨hs.1,Nat.zero_le _⟩⟩
 ·exact⟨by show wr (x.time+1)≤_;rw[hw];exact Int.le_refl _,by show x.next≤_;omega,by show x.out.length≤_;omega,by show(x.aF++[_]).length≤_;simp,by show x.due.length+(timers x.w).length≤_;omega,fun q=>CK hs q,id⟩
theorem RI.ajB (h:RI n M x) (hn:n < 1000000) (ht:x.tasks[k]? =some t) (h0:t.op=0) (hk:3≤k) (hd:x.due≠[]):RI (n+1) M (mE x k):=by
 have hw:=h.xH hn
 refine h.next ?_ ((h.wi.begin (h.sml hn) ht h0 hk).resolve_right hd) h.ti.begin h.nb.begin
 unfold mE
 split
 ·rename_i e;exact absurd e hd
 ·rename_i td rest e
  have hl:x.due.length=rest.length+1:=by rw[e];rfl
  exact⟨by show wr (x.time+1)≤_;rw[hw];exact Int.le_refl _,by show x.next≤_;omega,by show x.out.length≤_;omega,by show(x.aF++[_]).length≤_;simp,by show rest.length+(timers x.w).length≤_;omega,fun q=>CK M5 q,fun q=>sS q ⟨MW,Nat.zero_le _⟩⟩
theorem RI.ajW (h:RI n M x) (hn:n < 1000000) (ht:x.tasks[k]? =some t) (hy:qR x k t=some y):RI (n+1) M y:=by
 have hw:=h.xH hn
 unfold qR at hy
 split at hy
 ·rename_i hop
  obtain⟨z,hz,rfl⟩:=Option.map_eq_some_iff.1 hy
  exact h.next ((Gr.xW h.wi ht (h.aj0 hn) hz).tick hw) (h.wi.xW (h.sml hn) ht hop (h.ti.few h.wi) hz) (h.ti.xW h.wi ht hop hz).tm (h.nb.xW h.wi ht hop hz).tm
 split at hy
 ·rename_i hop
  obtain⟨z,hz,rfl⟩:=Option.map_eq_some_iff.1 hy
  exact h.next ((Gr.xX h.wi ht hz).tick hw) (h.wi.xX (h.sml hn) ht hop hz) (h.ti.xX h.wi ht hop hz).tm (h.nb.xX h.wi ht hop hz).tm
 split at hy
 ·cases hy
 ·rename_i h1 h2 h3
  cases hy
  have hok:=(h.wi.tasks k t ht).1.1
  have h0:t.op=0:=by
   rcases Classical.em (t.op=0) with q|q
   ·exact q
   ·rcases Ug hok q with r|r
    ·exact absurd r h1
    ·exact absurd r h2
  exact h.ajB hn ht h0 (by omega) (fun e=>h3 (.inr (by rw[e];rfl)))
theorem RI.Ad (h:RI n M x) (hn:n < 1000000) {m:Nat} (hm:x.w.now+m≤100000):RI (n+1) M (Ad x m):=by
 have hw:=h.xH hn
 have hwi:=iw.1 h.wi.w
 obtain⟨-,-,a3,-⟩:=zZ hwi m (by omega)
 have hl:=a3.length_eq
 rw[List.length_append] at hl
 refine h.next ?_ (h.wi.tick (h.sml hn) hm) (h.ti.tick h.wi hm) (h.nb.same rfl rfl)
 exact⟨by show wr (x.time+1)≤_;rw[hw];exact Int.le_refl _,by show x.next≤_;omega,by show x.out.length≤_;omega,by show x.aF.length≤_;omega,by
  show(x.due++(dA x.w m).2).length+(timers (dA x.w m).1).length≤_
  rw[List.length_append];omega,id,id⟩
theorem RI.pO (h:RI n M x) (hn:n < 1000000) (hy:pO x=some y):RI (n+1) M y:=by
 have hw:=h.xH hn
 refine h.next ?_ (h.wi.MV (h.sml hn) hy) (h.ti.MV hy) ?_
 ·unfold Go.Proofs.YtcgjihfngdhjjaaGreat.pO at hy
  split at hy
  ·cases hy
  ·cases hy
   exact⟨by show wr (x.time+1)≤_;rw[hw];exact Int.le_refl _,by show x.next≤_;omega,by show(x.out++[_]).length≤_;simp,by show x.aF.length≤_;omega,by show x.due.length+(timers x.w).length≤_;omega,id,id⟩
 ·unfold Go.Proofs.YtcgjihfngdhjjaaGreat.pO at hy
  split at hy
  ·cases hy
  ·cases hy;exact h.nb.same rfl rfl
theorem RI.nO (h:RI n M x) (hn:n < 1000000) (hy:nO x=some y):RI (n+1) M y:=by
 have hw:=h.xH hn
 refine h.next ?_ (h.wi.CY (h.sml hn) hy) (h.ti.CY hy) (h.nb.CY h.wi hy)
 unfold Go.Proofs.YtcgjihfngdhjjaaGreat.nO at hy
 split at hy
 ·cases hy
 ·cases hy
  exact⟨by show wr (x.time+1)≤_;rw[hw];exact Int.le_refl _,by show x.next≤_;omega,by show x.out.length≤_;omega,by show(x.aF++[_]).length≤_;simp,by
   show(x.due++timers x.w).length+(timers (nC x.w.now)).length≤_
   rw[BD,List.length_append];simp,fun q=>CK M5 q,id⟩
end
end Go.Proofs.YtcgjihfngdhjjaaGreat
end
