import Derived.Test.YtekfdoknfcedpaaGreatDW61
import Derived.Test.YtekfdoknfcedpaaGreatDKW2
set_option linter.unusedSimpArgs false
set_option linter.unusedVariables false
namespace Go.Proofs.YtekfdoknfcedpaaGreat
open Go Go.Ab
structure WI (x:Wld):Prop where
 conf:yH x.c
 time:0≤x.time
 next:1≤x.next
 st:JY x.st
 stl:(x.st.length:Int)=x.c.bZ
 b:gG x.b
 bc:x.b.rate=x.c.rate∧x.b.aW=x.c.aW∧x.b.at_≤x.w.now
 cache:cOk x.cache x.c.cache
 used:x.used=held x.st
 budget:x.used≤x.c.budget
 w:xW x.w
 now:x.w.now≤100000
 shut:x.shut=true→timers x.w=[]
 ql:(x.queue.length:Int)≤x.c.queue
 queue:∀ y∈x.queue,jq y
 out:∀ y∈x.out,jq y
 aH:∀ d∈x.aH,kU d∧d.inv < x.time∧d.lin < x.time∧d.res < x.time
 tl:x.tasks.length=5
 alJ:∀ t∈allT x.st,t.stamp < x.next∧known x t.id t.stamp
 cst:∀ v∈x.cache,v.stamp < x.next
 tms:∀ t∈dJ x,(1≤t.id∧t.id≤x.next - 1)∧(1≤t.trace∧t.trace≤999)
 tasks:∀ (k:Nat) (t:Task),x.tasks[k]? =some t→rE x k t∧t.stamp < x.next
 dS:KC x
theorem RF {x:Wld}:oQ x↔WI x:=by
 constructor
 ·rintro⟨⟨h1,h2,h3,h4,h5,h6,h7,h8,h9,h10,h11,h12,h13,h14,h15,h16,h17,h18,h19⟩,h20,⟨h21,h22,h23⟩,h24,h25⟩
  refine⟨h1,h2,h3,P8.1 h4,h5,h6,⟨h7,h8,h9⟩,h10,h11,h12,h13,h14,fun hs=>?_,h16,h17,h18,h19,by omega,fun t ht=>?_,h22,h23,h24,RU.1 h25⟩
  ·have:=h15 hs
   exact List.length_eq_zero_iff.1 (by omega)
  ·obtain⟨i,s,hs,hts⟩:=JN.1 ht
   exact h21 i s hs t hts
 ·intro h
  refine⟨⟨h.conf,h.time,h.next,P8.2 h.st,h.stl,h.b,h.bc.1,h.bc.2.1,h.bc.2.2,h.cache,h.used,h.budget,h.w,h.now,fun hs=>by rw[h.shut hs];simp,h.ql,h.queue,h.out,h.aH⟩,by have:=h.tl;omega,⟨fun i s hs t ht=>h.alJ t (JN.2 ⟨i,s,hs,ht⟩),h.cst,h.tms⟩,h.tasks,RU.2 h.dS⟩
end Go.Proofs.YtekfdoknfcedpaaGreat
