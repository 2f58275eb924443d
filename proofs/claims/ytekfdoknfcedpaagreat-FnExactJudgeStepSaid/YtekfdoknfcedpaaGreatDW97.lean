import Derived.Test.YtekfdoknfcedpaaGreatDW87
import Derived.Test.YtekfdoknfcedpaaGreatDAb56
import Derived.Test.YtekfdoknfcedpaaGreatDW89
import Derived.Test.YtekfdoknfcedpaaGreatDW94
import Derived.Test.YtekfdoknfcedpaaGreatDW67
set_option linter.unusedSimpArgs false
set_option linter.unusedVariables false
set_option maxHeartbeats 2000000
namespace Go.Proofs.YtekfdoknfcedpaaGreat
open Go Go.Ab
theorem SX {k:Nat} {st st':List aU} {tr:Int} (h1:1≤(st.length:Int)) (hl:st'.length=st.length) (hst:∀ (i:Nat) (s':aU),st'[i]? =some s'→∃ s,st[i]? =some s∧s'.held=s.held) (hP:∀ (i:Nat) (s:aU),st[i]? =some s→(s.held=(k:Int)↔(i:Int)=stripe tr st.length)):qc k st'=jQ st' tr (-1):=by
 have h1':1≤(st'.length:Int):=by rw[hl];exact h1
 obtain⟨y,hy⟩:=CQ h1' tr
 have hb:=kL (t:=tr) h1'
 rw[yj hy]
 refine List.ext_getElem? fun i=>?_
 unfold qc
 rw[List.getElem?_map,List.getElem?_set]
 cases hi:st'[i]? with
 |none=>
  have:=List.getElem?_eq_none_iff.1 hi
  rw[if_neg (by omega)];rfl
 |some s'=>
  obtain⟨s,hs,he⟩:=hst i s' hi
  have hp:=hP i s hs
  have hil:=(List.getElem?_eq_some_iff.1 hi).1
  show some (jZ k s')=_
  split
  ·rename_i e
   have hsy:s'=y:=by rw[e] at hy;rw[hi] at hy;cases hy;rfl
   rw[if_pos (by omega)]
   have:s'.held=(k:Int):=by rw[he];exact hp.2 (by rw[←hl];omega)
   unfold jZ;rw[if_pos this,hsy]
  ·rename_i e
   have: ¬ s'.held=(k:Int):=by
    rw[he];intro q;have:=hp.1 q;rw[←hl] at this;omega
   unfold jZ;rw[if_neg this]
section
variable{x:Wld} {k:Nat} {t:Task}
theorem UG (h:WI x) (ht:x.tasks[k]? =some t) {tr:Int} (hh:dU t x.st.length=stripe tr x.st.length):∀ (i:Nat) (s:aU),x.st[i]? =some s→(s.held=(k:Int)↔(i:Int)=stripe tr x.st.length):=fun i s hs=>by
 have:=(h.dS.1 i s hs).2 k t ht
 rw[hh] at this
 constructor
 ·intro q;exact(this.2 q).symm
 ·intro q;exact this.1 q.symm
theorem ajP {l:List aU}:∀ (i:Nat) (s':aU),l[i]? =some s'→∃ s,l[i]? =some s∧s'.held=s.held:=fun i s h=>⟨s,h,rfl⟩
end
end Go.Proofs.YtekfdoknfcedpaaGreat
