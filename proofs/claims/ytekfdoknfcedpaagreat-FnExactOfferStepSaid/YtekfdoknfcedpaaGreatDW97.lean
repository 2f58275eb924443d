import Derived.Test.YtekfdoknfcedpaaGreatDW95
import Derived.Test.YtekfdoknfcedpaaGreatDW68
set_option linter.unusedSimpArgs false
set_option linter.unusedVariables false
set_option maxHeartbeats 2000000
namespace Go.Proofs.YtekfdoknfcedpaaGreat
open Go Go.Ab
theorem EA {k:Nat} {st st':List aM} {tr:Int} (h1:1≤(st.length:Int)) (hl:st'.length=st.length) (hst:∀ (i:Nat) (s':aM),st'[i]? =some s'→∃ s,st[i]? =some s∧s'.held=s.held) (hP:∀ (i:Nat) (s:aM),st[i]? =some s→(s.held=(k:Int)↔(i:Int)=stripe tr st.length)):nY k st'=gU st' tr (-1):=by
 have h1':1≤(st'.length:Int):=by rw[hl];exact h1
 obtain⟨y,hy⟩:=lD h1' tr
 have hb:=iG (t:=tr) h1'
 rw[wS hy]
 refine List.ext_getElem? fun i=>?_
 unfold nY
 rw[List.getElem?_map,List.getElem?_set]
 cases hi:st'[i]? with
 |none=>
  have:=List.getElem?_eq_none_iff.1 hi
  rw[if_neg (by omega)];rfl
 |some s'=>
  obtain⟨s,hs,he⟩:=hst i s' hi
  have hp:=hP i s hs
  have hil:=(List.getElem?_eq_some_iff.1 hi).1
  show some (kY k s')=_
  split
  ·rename_i e
   have hsy:s'=y:=by rw[e] at hy;rw[hi] at hy;cases hy;rfl
   rw[if_pos (by omega)]
   have:s'.held=(k:Int):=by rw[he];exact hp.2 (by rw[←hl];omega)
   unfold kY;rw[if_pos this,hsy]
  ·rename_i e
   have: ¬ s'.held=(k:Int):=by
    rw[he];intro q;have:=hp.1 q;rw[←hl] at this;omega
   unfold kY;rw[if_neg this]
section
variable{x:Wld} {k:Nat} {t:Task}
theorem E8 (h:WI x) (ht:x.tasks[k]? =some t) {tr:Int} (hh:dU t x.st.length=stripe tr x.st.length):∀ (i:Nat) (s:aM),x.st[i]? =some s→(s.held=(k:Int)↔(i:Int)=stripe tr x.st.length):=fun i s hs=>by
 have:=(h.fq.1 i s hs).2 k t ht
 rw[hh] at this
 constructor
 ·intro q;exact(this.2 q).symm
 ·intro q;exact this.1 q.symm
theorem FP {z:Wld} (h:WI x) (ht:x.tasks[k]? =some t) (hh:dU t x.st.length=stripe t.s.trace x.st.length) {code stamp:Int} (hl:z.st.length=x.st.length) (hst:∀ (i:Nat) (s':aM),z.st[i]? =some s'→∃ s,x.st[i]? =some s∧s'.held=s.held):mX z k t code stamp=lq z k t code stamp:=by
 unfold mX lq
 rw[EA (h.st.1.1) hl hst (E8 h ht hh)]
theorem zm {l:List aM}:∀ (i:Nat) (s':aM),l[i]? =some s'→∃ s,l[i]? =some s∧s'.held=s.held:=fun i s h=>⟨s,h,rfl⟩
theorem ak7 (h:WI x) (ht:x.tasks[k]? =some t) (hop:t.op=1) (hpc:t.pc=1):Ak x k t=lookW x k t:=by
 have hh:dU t x.st.length=stripe t.s.trace x.st.length:=ajN h.st.1.1 hop hpc
 unfold Ak lookW
 rw[FP h ht hh rfl zm,FP h ht hh rfl zm,FP (z:={x with queue:=x.queue++[⟨(vOf x.cache t.s.trace).1.stamp,t.s⟩]}) h ht hh rfl zm]
 have e1:nY k x.st=gU x.st t.s.trace (-1):=EA h.st.1.1 rfl zm (E8 h ht hh)
 have hlen:(gZ x t).st.length=x.st.length:=by unfold gZ;exact zL
 have e2:mX (gZ x t) k t 1 (gG x t)=lq (gZ x t) k t 1 (gG x t):=by
  refine FP h ht hh hlen fun i s' hs'=>?_
  obtain⟨y,hy⟩:=lD h.st.1.1 t.s.trace
  have e:(gZ x t).st=x.st.set (stripe t.s.trace x.st.length).toNat {y with l:=iE y.l t.s (gG x t) x.w.now}:=by unfold gZ;exact kQ hy
  rw[e] at hs'
  exact aks (y':={y with l:=iE y.l t.s (gG x t) x.w.now}) hy rfl hs'
 rw[e1,e2]
theorem ak5 (h:WI x) (ht:x.tasks[k]? =some t) (hop:t.op=1) (hpc:t.pc=3):mJ x k t=lV x k t:=by
 have hh:dU t x.st.length=stripe t.trace x.st.length:=ako h.st.1.1 (.inl ⟨hop,hpc⟩)
 have e:nY k (gu x t k).st=gU (gu x t k).st t.trace (-1):=by
  by_cases hit:fF x.st t.trace=true∧(dx x.st t.trace).stamp=t.stamp∧x.c.budget < wr (x.used+dM t.s)
  ·have eD:(gu x t k).st=gL x.st (dx x.st t.trace).id:=by unfold gu;rw[if_pos hit];rfl
   obtain⟨o,ho⟩:∃ o,fu x.st t.trace=some o:=by have:=hit.1;unfold fF at this;exact Option.isSome_iff_exists.1 this
   have hoo:=(pV ho).1
   have hid:=(akt ho).2
   have ho':fu x.st o.id=some o:=by rw[hid];exact ho
   rw[eD,hoo]
   refine EA h.st.1.1 zK (fun i s' hs'=>?_) (E8 h ht hh)
   obtain⟨s,hs,he,-⟩:=akv ho' hs'
   exact⟨s,hs,he⟩
  ·have eD:gu x t k=x:=by unfold gu;rw[if_neg hit]
   rw[eD]
   exact EA h.st.1.1 rfl zm (E8 h ht hh)
 unfold mJ lV
 rw[e]
end
end Go.Proofs.YtekfdoknfcedpaaGreat
