import Derived.Test.YtekfdoknfcedpaaGreatDW61
import Derived.Test.YtekfdoknfcedpaaGreatDKW2
set_option linter.unusedSimpArgs false
set_option linter.unusedVariables false
namespace Go.Proofs.YtekfdoknfcedpaaGreat
open Go Go.Ab
structure WI (x:Wld):Prop where
 conf:Ae x.c
 time:0≤x.time
 next:1≤x.next
 st:KD x.st
 stl:(x.st.length:Int)=x.c.cB
 b:qP x.b
 bc:x.b.rate=x.c.rate∧x.b.aV=x.c.aV∧x.b.at_≤x.w.now
 cache:cOk x.cache x.c.cache
 used:x.used=held x.st
 budget:x.used≤x.c.budget
 w:iA x.w
 now:x.w.now≤100000
 shut:x.shut=true→timers x.w=[]
 ql:(x.queue.length:Int)≤x.c.queue
 queue:∀ y∈x.queue,ku y
 out:∀ y∈x.out,ku y
 aI:∀ d∈x.aI,mH d∧d.inv < x.time∧d.lin < x.time∧d.res < x.time
 tl:x.tasks.length=5
 alF:∀ t∈allT x.st,t.stamp < x.next∧known x t.id t.stamp
 cst:∀ v∈x.cache,v.stamp < x.next
 tms:∀ t∈dO x,(1≤t.id∧t.id≤x.next - 1)∧(1≤t.trace∧t.trace≤999)
 tasks:∀ (k:Nat) (t:Task),x.tasks[k]? =some t→uE x k t∧t.stamp < x.next
 fq:K9 x
theorem Sj {x:Wld}:qR x↔WI x:=by
 constructor
 ·rintro⟨⟨h1,h2,h3,h4,h5,h6,h7,h8,h9,h10,h11,h12,h13,h14,h15,h16,h17,h18,h19⟩,h20,⟨h21,h22,h23⟩,h24,h25⟩
  refine⟨h1,h2,h3,QD.1 h4,h5,h6,⟨h7,h8,h9⟩,h10,h11,h12,h13,h14,fun hs=>?_,h16,h17,h18,h19,by omega,fun t ht=>?_,h22,h23,h24,SE.1 h25⟩
  ·have:=h15 hs
   exact List.length_eq_zero_iff.1 (by omega)
  ·obtain⟨i,s,hs,hts⟩:=Ko.1 ht
   exact h21 i s hs t hts
 ·intro h
  refine⟨⟨h.conf,h.time,h.next,QD.2 h.st,h.stl,h.b,h.bc.1,h.bc.2.1,h.bc.2.2,h.cache,h.used,h.budget,h.w,h.now,fun hs=>by rw[h.shut hs];simp,h.ql,h.queue,h.out,h.aI⟩,by have:=h.tl;omega,⟨fun i s hs t ht=>h.alF t (Ko.2 ⟨i,s,hs,ht⟩),h.cst,h.tms⟩,h.tasks,SE.2 h.fq⟩
end Go.Proofs.YtekfdoknfcedpaaGreat
