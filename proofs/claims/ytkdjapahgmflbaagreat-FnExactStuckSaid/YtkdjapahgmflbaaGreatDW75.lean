import Derived.Test.YtkdjapahgmflbaaGreatDW60
import Derived.Test.YtkdjapahgmflbaaGreatDKW2
section
set_option linter.unusedSimpArgs false
set_option linter.unusedVariables false
namespace Go.Proofs.YtkdjapahgmflbaaGreat
open Go Go.Ab
def akG (n:Nat) (l:List Task) (m:Nat) (hs:List Int) (r:Int):Prop:=
 hs.length=n∧(∀ (i:Nat) (y:Int),hs[i]? =some y→(y= -1∨∃ k:Nat,k < m∧y=(k:Int))∧∀ (k:Nat) (t:Task),k < m→l[k]? =some t→(eP t n=(i:Int)↔y=(k:Int)))∧
 (r= -1∨∃ k:Nat,k < m∧r=(k:Int))∧∀ (k:Nat) (t:Task),k < m→l[k]? =some t→((t.op=2∧t.pc=2)↔r=(k:Int))
theorem alV {hs:List Int} {n:Nat} (hl:hs.length=n) (h:∀ (i:Nat) (y:Int),hs[i]? =some y→y= -1):hs=List.replicate n (-1):=by
 subst hl
 refine List.eq_replicate_iff.2 ⟨rfl,fun y hy=>?_⟩
 obtain⟨i,hi⟩:=List.mem_iff_getElem?.1 hy
 exact h i y hi
theorem LM {n:Nat} {l:List Task}:∀ (m:Nat),m≤l.length→∀ (hs:List Int) (r:Int),fM n l m=some (hs,r)↔akG n l m hs r
 |0,_,hs,r=>by
  simp only[fM,Option.some.injEq,Prod.mk.injEq]
  constructor
  ·rintro⟨rfl,rfl⟩
   refine⟨by simp,fun i y hy=>⟨.inl ?_,fun k t hk=>absurd hk (Nat.not_lt_zero _)⟩,.inl rfl,fun k t hk=>absurd hk (Nat.not_lt_zero _)⟩
   exact List.eq_of_mem_replicate (List.mem_of_getElem? hy)
  ·rintro⟨h1,h2,h3,-⟩
   refine⟨(alV h1 fun i y hy=>?_).symm,?_⟩
   ·rcases(h2 i y hy).1 with e|⟨k,hk,-⟩
    ·exact e
    ·exact absurd hk (Nat.not_lt_zero _)
   ·rcases h3 with e|⟨k,hk,-⟩
    ·exact e.symm
    ·exact absurd hk (Nat.not_lt_zero _)
 |m+1,hm,hs,r=>by
  obtain⟨t,ht⟩:∃ t,l[m]? =some t:=⟨l[m],List.getElem?_eq_getElem (by omega)⟩
  have hb:=Ms t n
  have ih:=LM (n:=n) (l:=l) m (by omega)
  constructor
  ·intro h
   cases h0:fM n l m with
   |none=>rw[sS h0 (Nat.le_succ m)] at h;cases h
   |some s=>
    obtain⟨hs0,r0⟩:=s
    obtain⟨a1,a2,a3,a4⟩:=(ih hs0 r0).1 h0
    have hk:kQ n hs0 m t=some hs∧kR r0 m t=some r:=by
     simp only[fM,h0,ht,yA] at h
     cases e1:kQ n hs0 m t with
     |none=>rw[e1] at h;simp at h
     |some x=>
      cases e2:kR r0 m t with
      |none=>rw[e1,e2] at h;simp at h
      |some z=>rw[e1,e2] at h;simp at h;exact⟨by rw[h.1],by rw[h.2]⟩
    obtain⟨k1,k2⟩:=hk
    refine⟨?_,?_,?_,?_⟩
    ·unfold kQ at k1
     split at k1
     ·split at k1
      ·cases k1;simpa using a1
      ·cases k1
     ·cases k1;exact a1
    ·unfold kQ at k1
     split at k1
     ·rename_i hH
      split at k1
      ·rename_i hfree
       cases k1
       intro i y hy
       rw[List.getElem?_set] at hy
       split at hy
       ·rename_i hi
        split at hy
        ·cases hy
         refine⟨.inr ⟨m,by omega,rfl⟩,fun k t' hk ht'=>?_⟩
         by_cases e:k=m
         ·subst e
          rw[ht] at ht';cases ht'
          exact⟨fun _=>rfl,fun _=>by rw[←hi];exact(Int.toNat_of_nonneg hH).symm⟩
         ·have:=(a2 (eP t n).toNat (-1) hfree).2 k t' (by omega) ht'
          constructor
          ·intro q
           have:(-1:Int)=(k:Int):=this.1 (by omega)
           omega
          ·intro q;omega
        ·cases hy
       ·rename_i hi
        obtain⟨b1,b2⟩:=a2 i y hy
        refine⟨b1.imp id fun⟨k,hk,e⟩=>⟨k,Nat.lt_succ_of_lt hk,e⟩,fun k t' hk ht'=>?_⟩
        by_cases e:k=m
        ·subst e
         rw[ht] at ht';cases ht'
         constructor
         ·intro q;exact absurd (by rw[q,Int.toNat_natCast]) hi
         ·intro q
          exfalso
          rcases b1 with b1|⟨k',hk',e'⟩<;>omega
        ·exact b2 k t' (by omega) ht'
      ·cases k1
     ·rename_i hH
      cases k1
      intro i y hy
      obtain⟨b1,b2⟩:=a2 i y hy
      refine⟨b1.imp id fun⟨k,hk,e⟩=>⟨k,Nat.lt_succ_of_lt hk,e⟩,fun k t' hk ht'=>?_⟩
      by_cases e:k=m
      ·subst e
       rw[ht] at ht';cases ht'
       constructor
       ·intro q;omega
       ·intro q
        exfalso
        rcases b1 with b1|⟨k',hk',e'⟩<;>omega
      ·exact b2 k t' (by omega) ht'
    ·unfold kR at k2
     split at k2
     ·split at k2
      ·cases k2;exact .inr ⟨m,by omega,rfl⟩
      ·cases k2
     ·cases k2;exact a3.imp id fun⟨k,hk,e⟩=>⟨k,Nat.lt_succ_of_lt hk,e⟩
    ·intro k t' hk ht'
     unfold kR at k2
     by_cases e:k=m
     ·subst e
      rw[ht] at ht';cases ht'
      split at k2
      ·rename_i hr
       split at k2
       ·cases k2;exact⟨fun _=>rfl,fun _=>hr⟩
       ·cases k2
      ·rename_i hr
       cases k2
       refine⟨fun q=>absurd q hr,fun q=>?_⟩
       rcases a3 with b1|⟨k',hk',e'⟩<;>omega
     ·have:=a4 k t' (by omega) ht'
      split at k2
      ·rename_i hr
       split at k2
       ·rename_i h1
        cases k2
        rw[this]
        constructor
        ·intro q;omega
        ·intro q;omega
       ·cases k2
      ·cases k2;exact this
  ·rintro⟨h1,h2,h3,h4⟩
   have e0:fM n l m=some (hs.map (fun y=>if y=(m:Int) then -1 else y),if r=(m:Int) then -1 else r):=by
    rw[ih]
    refine⟨by simpa using h1,fun i y hy=>?_,?_,fun k t' hk ht'=>?_⟩
    ·rw[List.getElem?_map] at hy
     cases hz:hs[i]? with
     |none=>rw[hz] at hy;cases hy
     |some z=>
      rw[hz] at hy
      simp only[Option.map_some,Option.some.injEq] at hy
      obtain⟨b1,b2⟩:=h2 i z hz
      refine⟨?_,fun k t' hk ht'=>?_⟩
      ·subst hy
       split
       ·exact .inl rfl
       ·rcases b1 with b1|⟨k,hk,e⟩
        ·exact .inl b1
        ·exact .inr ⟨k,by omega,e⟩
      ·rw[b2 k t' (by omega) ht']
       subst hy
       split
       ·constructor
        ·intro q;omega
        ·intro q;omega
       ·exact Iff.rfl
    ·split
     ·exact .inl rfl
     ·rcases h3 with b1|⟨k,hk,e⟩
      ·exact .inl b1
      ·exact .inr ⟨k,by omega,e⟩
    ·rw[h4 k t' (by omega) ht']
     split
     ·constructor
      ·intro q;omega
      ·intro q;omega
     ·exact Iff.rfl
   refine qB e0 ht ?_ ?_
   ·by_cases hH:0≤eP t n
    ·obtain⟨z,hz⟩:∃ z,hs[(eP t n).toNat]? =some z:=⟨hs[(eP t n).toNat]'(by rw[h1];have:=hb.2 hH;omega),List.getElem?_eq_getElem _⟩
     have hzm:z=(m:Int):=((h2 _ z hz).2 m t (by omega) ht).1 (by omega)
     subst hzm
     rw[Mh (y:=-1) hH (by rw[List.getElem?_map,hz];simp) rfl]
     congr 1
     apply List.ext_getElem?
     intro i
     rw[List.getElem?_set]
     split
     ·rename_i hi
      subst hi
      rw[hz]
      have hlt:=(List.getElem?_eq_some_iff.1 hz).1
      simp[hlt]
     ·rename_i hi
      rw[List.getElem?_map]
      cases hy:hs[i]? with
      |none=>rfl
      |some y=>
       have:=((h2 i y hy).2 m t (by omega) ht)
       have hne:y≠(m:Int):=fun q=>by have:=this.2 q;omega
       simp[hne]
    ·rw[Mi (by omega)]
     congr 1
     apply List.ext_getElem?
     intro i
     rw[List.getElem?_map]
     cases hy:hs[i]? with
     |none=>rfl
     |some y=>
      have:=((h2 i y hy).2 m t (by omega) ht)
      have hne:y≠(m:Int):=fun q=>by have:=this.2 q;omega
      simp[hne]
   ·have h4m:=h4 m t (by omega) ht
    by_cases hr:t.op=2∧t.pc=2
    ·have:=h4m.1 hr
     subst this
     rw[if_pos rfl]
     exact Bq hr rfl
    ·have:r≠(m:Int):=fun q=>hr (h4m.2 q)
     rw[if_neg this]
     exact Br hr
def MJ (x:Wld):Prop:=
 (∀ (i:Nat) (s:aQ),x.st[i]? =some s→(s.held= -1∨∃ k:Nat,k < x.tasks.length∧s.held=(k:Int))∧∀ (k:Nat) (t:Task),x.tasks[k]? =some t→(eP t x.st.length=(i:Int)↔s.held=(k:Int)))∧
 (x.bS= -1∨∃ k:Nat,k < x.tasks.length∧x.bS=(k:Int))∧∀ (k:Nat) (t:Task),x.tasks[k]? =some t→((t.op=2∧t.pc=2)↔x.bS=(k:Int))
theorem UY {x:Wld}:GL x↔MJ x:=by
 unfold GL MJ
 constructor
 ·rintro⟨hs,r,h,hst,rfl⟩
  obtain⟨h1,h2,h3,h4⟩:=(LM _ (Nat.le_refl _) hs _).1 h
  refine⟨fun i s hs'=>?_,h3,fun k t ht=>h4 k t (List.getElem?_eq_some_iff.1 ht).1 ht⟩
  obtain⟨b1,b2⟩:=h2 i s.held (hst i s hs')
  exact⟨b1,fun k t ht=>b2 k t (List.getElem?_eq_some_iff.1 ht).1 ht⟩
 ·rintro⟨h1,h2,h3⟩
  refine⟨x.st.map (·.held),x.bS,(LM _ (Nat.le_refl _) _ _).2 ⟨by simp,fun i y hy=>?_,h2,fun k t _ ht=>h3 k t ht⟩,fun i s hs=>by rw[List.getElem?_map,hs];rfl,rfl⟩
  rw[List.getElem?_map] at hy
  cases hs:x.st[i]? with
  |none=>rw[hs] at hy;cases hy
  |some s=>
   rw[hs] at hy
   simp only[Option.map_some,Option.some.injEq] at hy
   subst hy
   exact⟨(h1 i s hs).1,fun k t _ ht=>(h1 i s hs).2 k t ht⟩
end Go.Proofs.YtkdjapahgmflbaaGreat
end
section
set_option linter.unusedSimpArgs false
set_option linter.unusedVariables false
namespace Go.Proofs.YtkdjapahgmflbaaGreat
open Go Go.Ab
structure WI (x:Wld):Prop where
 conf:BS x.c
 time:0≤x.time
 next:1≤x.next
 st:LX x.st
 stl:(x.st.length:Int)=x.c.eU
 b:jB x.b
 bc:x.b.rate=x.c.rate∧x.b.bn=x.c.bn∧x.b.at_≤x.w.now
 cache:cOk x.cache x.c.cache
 used:x.used=held x.st
 budget:x.used≤x.c.budget
 w:jg x.w
 now:x.w.now≤100000
 shut:x.shut=true→timers x.w=[]
 ql:(x.queue.length:Int)≤x.c.queue
 queue:∀ y∈x.queue,lH y
 out:∀ y∈x.out,lH y
 aF:∀ d∈x.aF,nJ d∧d.inv < x.time∧d.lin < x.time∧d.res < x.time
 tl:x.tasks.length=5
 alR:∀ t∈allT x.st,t.stamp < x.next∧known x t.id t.stamp
 cst:∀ v∈x.cache,v.stamp < x.next
 tms:∀ t∈eO x,(1≤t.id∧t.id≤x.next - 1)∧(1≤t.trace∧t.trace≤999)
 tasks:∀ (k:Nat) (t:Task),x.tasks[k]? =some t→wE x k t∧t.stamp < x.next
 fM:MJ x
theorem xL {x:Wld}:mO x↔WI x:=by
 constructor
 ·rintro⟨⟨h1,h2,h3,h4,h5,h6,h7,h8,h9,h10,h11,h12,h13,h14,h15,h16,h17,h18,h19⟩,h20,⟨h21,h22,h23⟩,h24,h25⟩
  refine⟨h1,h2,h3,Sj.1 h4,h5,h6,⟨h7,h8,h9⟩,h10,h11,h12,h13,h14,fun hs=>?_,h16,h17,h18,h19,by omega,fun t ht=>?_,h22,h23,h24,UY.1 h25⟩
  ·have:=h15 hs
   exact List.length_eq_zero_iff.1 (by omega)
  ·obtain⟨i,s,hs,hts⟩:=LJ.1 ht
   exact h21 i s hs t hts
 ·intro h
  refine⟨⟨h.conf,h.time,h.next,Sj.2 h.st,h.stl,h.b,h.bc.1,h.bc.2.1,h.bc.2.2,h.cache,h.used,h.budget,h.w,h.now,fun hs=>by rw[h.shut hs];simp,h.ql,h.queue,h.out,h.aF⟩,by have:=h.tl;omega,⟨fun i s hs t ht=>h.alR t (LJ.2 ⟨i,s,hs,ht⟩),h.cst,h.tms⟩,h.tasks,UY.2 h.fM⟩
end Go.Proofs.YtkdjapahgmflbaaGreat
end
section
set_option linter.unusedSimpArgs false
set_option linter.unusedVariables false
namespace Go.Proofs.YtkdjapahgmflbaaGreat
open Go Go.Ab
theorem aj3 {t:Task} {n:Int} (hn:1≤n) (h:t.op=1) (hp:t.pc=1):eP t n=stripe t.s.trace n:=by
 unfold eP
 rw[if_neg (by omega),if_pos ⟨h,hp⟩]
theorem WK {t:Task} {n:Int} (hn:1≤n) (h:(t.op=1∧t.pc=3)∨(t.op=2∧(t.pc=1∨t.pc=2))):eP t n=stripe t.trace n:=by
 unfold eP
 rw[if_neg (by omega),if_neg (by omega),if_pos h]
section
variable{x:Wld} {k:Nat} {t t':Task}
theorem WI.n1 (h:WI x):1≤(x.st.length:Int):=h.st.1.1
end
end Go.Proofs.YtkdjapahgmflbaaGreat
end
section
set_option linter.unusedSimpArgs false
set_option linter.unusedVariables false
namespace Go.Proofs.YtkdjapahgmflbaaGreat
open Go Go.Ab
structure WhI (w:bX):Prop where
 now:0≤w.now∧w.now≤2147483647
 nl:w.near.length=8
 fl:w.far.length=8
 rest:∀ t∈w.rest,jF w.now 2 0 t
 near:∀ (i:Nat) (a:List Ab.Timer),w.near[i]? =some a→∀ t∈a,jF w.now 0 i t
 far:∀ (i:Nat) (a:List Ab.Timer),w.far[i]? =some a→∀ t∈a,jF w.now 1 i t
 nd:((timers w).map (·.id)).Nodup
 len:(timers w).length≤16
end Go.Proofs.YtkdjapahgmflbaaGreat
end
section
set_option linter.unusedSimpArgs false
set_option linter.unusedVariables false
namespace Go.Proofs.YtkdjapahgmflbaaGreat
open Go Go.Ab
section
variable{x:Wld} {k:Nat} {t t':Task}
theorem WI.own (h:WI x) (ht:x.tasks[k]? =some t) (h0:t.op≠0):∃ d,x.aF[t.h.toNat]? =some d∧BD k t d∧d∈x.aF:=by
 have hde:=(h.tasks k t ht).1.2 h0
 unfold um at hde
 cases hg:x.aF[t.h.toNat]? with
 |none=>rw[hg] at hde;exact hde.elim
 |some d=>rw[hg] at hde;exact⟨d,rfl,hde,List.mem_of_getElem? hg⟩
end
end Go.Proofs.YtkdjapahgmflbaaGreat
end
section
set_option linter.unusedSimpArgs false
set_option linter.unusedVariables false
namespace Go.Proofs.YtkdjapahgmflbaaGreat
open Go Go.Ab
section
variable{x:Wld} {k:Nat} {t:Task}
theorem task1 (h:WI x) (ht:x.tasks[k]? =some t) (hop:t.op=1):qG t.s∧k < 3∧t.hand=[]∧((t.pc=3∧(1≤t.trace∧t.trace≤999)∧1≤t.stamp)∨(t.pc≠3∧t.trace=0∧t.stamp=0)):=by
 obtain⟨-,-,-,q|q|q⟩:=(h.tasks k t ht).1.1
 ·rw[q] at hop;cases hop
 ·exact⟨q.2.2.1,by have:=q.2.1;omega,List.length_eq_zero_iff.1 (by have:=q.2.2.2.1;omega),q.2.2.2.2⟩
 ·omega
theorem akI {l:List aQ} {i:Nat} {y y':aQ} (hy:l[i]? =some y) (he:y'.held=y.held) {j:Nat} {s:aQ} (hs:(l.set i y')[j]? =some s):∃ z,l[j]? =some z∧s.held=z.held:=by
 rw[List.getElem?_set] at hs
 split at hs
 ·rename_i e
  split at hs
  ·cases hs;subst e;exact⟨y,hy,he⟩
  ·cases hs
 ·exact⟨s,hs,rfl⟩
end
end Go.Proofs.YtkdjapahgmflbaaGreat
end
section
set_option linter.unusedSimpArgs false
set_option linter.unusedVariables false
namespace Go.Proofs.YtkdjapahgmflbaaGreat
open Go Go.Ab
section
variable{x:Wld} {k:Nat} {t:Task}
theorem task2 (h:WI x) (ht:x.tasks[k]? =some t) (hop:t.op=2):k < 5∧3≤k∧MN t∧t.s=yV∧(1≤t.trace∧t.trace≤999)∧1≤t.stamp:=by
 have hk:=(List.getElem?_eq_some_iff.1 ht).1
 have h5:=h.tl
 obtain⟨-,-,-,q|q|q⟩:=(h.tasks k t ht).1.1
 ·rw[q] at hop;cases hop
 ·omega
 ·exact⟨by omega,by have:=q.2.1;omega,q.2.2⟩
end
end Go.Proofs.YtkdjapahgmflbaaGreat
end
