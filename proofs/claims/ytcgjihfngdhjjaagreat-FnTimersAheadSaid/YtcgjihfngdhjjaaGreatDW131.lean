import Derived.Test.YtcgjihfngdhjjaaGreatDW121
import Derived.Test.YtcgjihfngdhjjaaGreatDW60
set_option linter.unusedSimpArgs false
set_option linter.unusedVariables false
namespace Go.Proofs.YtcgjihfngdhjjaaGreat
open Go Go.Ab
theorem Me:∀ n:Nat,allT (List.replicate n jW)=[]
 |0=>rfl
 |n+1=>by
  have e:allT (List.replicate (n+1) jW)=jW.l++allT (List.replicate n jW):=by simp[allT,List.replicate_succ]
  rw[e,Me n];rfl
theorem WX {n i:Nat} {s:aR} (h:(List.replicate n jW)[i]? =some s):s=jW∧i < n:=by
 have hi:=(List.getElem?_eq_some_iff.1 h).1
 rw[List.length_replicate] at hi
 rw[List.getElem?_replicate_of_lt hi] at h
 cases h;exact⟨rfl,hi⟩
theorem MB {i:Nat} {t:Task} (h:(List.replicate 5 dX)[i]? =some t):t=dX∧i < 5:=by
 have hi:=(List.getElem?_eq_some_iff.1 h).1
 rw[List.length_replicate] at hi
 rw[List.getElem?_replicate_of_lt hi] at h
 cases h;exact⟨rfl,hi⟩
theorem aiv {n:Int}:bJ dX n= -1:=by
 unfold bJ
 split
 ·rfl
 ·rw[if_neg (by rintro⟨q,-⟩;cases q),if_neg (by rintro(⟨q,-⟩|⟨q,-⟩)<;>cases q)]
theorem WI.new {c:iQ} (hc:nI c):WI (sG c):=by
 have hN:=hc.1
 obtain⟨n,hn⟩:∃ n:Nat,c.dK=(n:Int):=⟨c.dK.toNat,by omega⟩
 rw[KW hc]
 have en:c.dK.toNat=n:=by omega
 rw[en]
 have ha:=Me n
 refine⟨hc,Int.le_refl _,Int.le_refl _,⟨by simp only[List.length_replicate];omega,fun i s hs=>?_,by rw[ha];exact List.nodup_nil⟩,by simp only[List.length_replicate];omega,?_,⟨rfl,rfl,Int.le_refl _⟩,⟨fun i v hv=>(by cases hv),?_⟩,?_,?_,iw.2 (Ua (now:=0) ⟨by omega,by omega⟩),(by show(0:Int)≤100000;decide),fun q=>(by cases q),?_,fun y hy=>(by cases hy),fun y hy=>(by cases hy),fun d hd=>(by cases hd),rfl,fun t ht=>?_,fun v hv=>(by cases hv),fun t ht=>?_,fun k t ht=>?_,⟨fun i s hs=>?_,.inl rfl,fun k t ht=>?_⟩⟩
 ·rw[(WX hs).1]
  exact⟨⟨by decide,by decide⟩,fun t ht=>(by cases ht),List.Pairwise.nil⟩
 ·have h1:=hc.2.2.2.2.2.1;have h2:=hc.2.2.2.2.2.2.1
  exact⟨h1,h2,⟨h2.1,Int.le_refl _⟩,by show(0:Int)≤0∧(0:Int)≤2147483647;omega⟩
 ·have:=hc.2.2.2.1;show((0:Nat):Int)≤c.cache;omega
 ·show(0:Int)=held (List.replicate n jW)
  unfold held;rw[ha];rfl
 ·have:=hc.2.2.1;show(0:Int)≤c.budget;omega
 ·have:=hc.2.2.2.2.1;show((0:Nat):Int)≤c.queue;omega
 ·have ht:t∈allT (List.replicate n jW):=ht
  rw[ha] at ht;cases ht
 ·exact absurd ht List.not_mem_nil
 ·obtain⟨e,hk⟩:=MB ht
  rw[e]
  exact⟨⟨⟨Int.le_refl _,⟨Int.le_refl _,by decide⟩,⟨by omega,by omega⟩,.inl rfl⟩,fun q=>absurd rfl q⟩,(by show(0:Int) < 1;decide)⟩
 ·obtain⟨e,hi⟩:=WX hs
  rw[e]
  refine⟨.inl rfl,fun k t ht=>?_⟩
  rw[(MB ht).1,aiv]
  exact⟨fun q=>by omega,fun q=>by have:(-1:Int)=(k:Int):=q;omega⟩
 ·rw[(MB ht).1]
  exact⟨fun q=>(by cases q.1),fun q=>by have:(-1:Int)=(k:Int):=q;omega⟩
theorem RI.new {c:iQ} {M:Nat} (hc:nI c):RI 0 M (sG c):=by
 have hw:=WI.new hc
 rw[KW hc] at hw ⊢
 have ha:=Me c.dK.toNat
 refine⟨hw,⟨fun t ht=>(by cases ht),fun t ht=>(by cases ht),fun t ht=>(by cases ht),fun q hq=>?_⟩,⟨fun _ d hd=>(by cases hd),fun q=>(by cases q)⟩,Int.le_refl _,Int.le_refl _,Nat.le_refl _,Nat.le_refl _,Nat.le_refl _,fun d hd=>(by cases hd),fun t ht=>?_⟩
 ·have hq:q∈(allT (List.replicate c.dK.toNat jW)).map tr3:=hq
  rw[ha] at hq;cases hq
 ·rw[(List.mem_replicate.1 ht).2];exact Ik
end Go.Proofs.YtcgjihfngdhjjaaGreat
