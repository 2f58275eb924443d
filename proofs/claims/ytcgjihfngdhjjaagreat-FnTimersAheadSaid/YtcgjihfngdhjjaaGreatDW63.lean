import Derived.Test.YtcgjihfngdhjjaaGreatDW60
import Derived.Test.YtcgjihfngdhjjaaGreatDKW2
section
set_option linter.unusedSimpArgs false
set_option linter.unusedVariables false
namespace Go.Proofs.YtcgjihfngdhjjaaGreat
open Go Go.Ab
def ahr (n:Nat) (l:List Task) (m:Nat) (hs:List Int) (r:Int):Prop:=
 hs.length=n∧(∀ (i:Nat) (y:Int),hs[i]? =some y→(y= -1∨∃ k:Nat,k < m∧y=(k:Int))∧∀ (k:Nat) (t:Task),k < m→l[k]? =some t→(bJ t n=(i:Int)↔y=(k:Int)))∧
 (r= -1∨∃ k:Nat,k < m∧r=(k:Int))∧∀ (k:Nat) (t:Task),k < m→l[k]? =some t→((t.op=2∧t.pc=2)↔r=(k:Int))
theorem aji {hs:List Int} {n:Nat} (hl:hs.length=n) (h:∀ (i:Nat) (y:Int),hs[i]? =some y→y= -1):hs=List.replicate n (-1):=by
 subst hl
 refine List.eq_replicate_iff.2 ⟨rfl,fun y hy=>?_⟩
 obtain⟨i,hi⟩:=List.mem_iff_getElem?.1 hy
 exact h i y hi
theorem Ll {n:Nat} {l:List Task}:∀ (m:Nat),m≤l.length→∀ (hs:List Int) (r:Int),dB n l m=some (hs,r)↔ahr n l m hs r
 |0,_,hs,r=>by
  simp only[dB,Option.some.injEq,Prod.mk.injEq]
  constructor
  ·rintro⟨rfl,rfl⟩
   refine⟨by simp,fun i y hy=>⟨.inl ?_,fun k t hk=>absurd hk (Nat.not_lt_zero _)⟩,.inl rfl,fun k t hk=>absurd hk (Nat.not_lt_zero _)⟩
   exact List.eq_of_mem_replicate (List.mem_of_getElem? hy)
  ·rintro⟨h1,h2,h3,-⟩
   refine⟨(aji h1 fun i y hy=>?_).symm,?_⟩
   ·rcases(h2 i y hy).1 with e|⟨k,hk,-⟩
    ·exact e
    ·exact absurd hk (Nat.not_lt_zero _)
   ·rcases h3 with e|⟨k,hk,-⟩
    ·exact e.symm
    ·exact absurd hk (Nat.not_lt_zero _)
 |m+1,hm,hs,r=>by
  obtain⟨t,ht⟩:∃ t,l[m]? =some t:=⟨l[m],List.getElem?_eq_getElem (by omega)⟩
  have hb:=Mf t n
  have ih:=Ll (n:=n) (l:=l) m (by omega)
  constructor
  ·intro h
   cases h0:dB n l m with
   |none=>rw[Bv h0 (Nat.le_succ m)] at h;cases h
   |some s=>
    obtain⟨hs0,r0⟩:=s
    obtain⟨a1,a2,a3,a4⟩:=(ih hs0 r0).1 h0
    have hk:kR n hs0 m t=some hs∧kS r0 m t=some r:=by
     simp only[dB,h0,ht,zu] at h
     cases e1:kR n hs0 m t with
     |none=>rw[e1] at h;simp at h
     |some x=>
      cases e2:kS r0 m t with
      |none=>rw[e1,e2] at h;simp at h
      |some z=>rw[e1,e2] at h;simp at h;exact⟨by rw[h.1],by rw[h.2]⟩
    obtain⟨k1,k2⟩:=hk
    refine⟨?_,?_,?_,?_⟩
    ·unfold kR at k1
     split at k1
     ·split at k1
      ·cases k1;simpa using a1
      ·cases k1
     ·cases k1;exact a1
    ·unfold kR at k1
     split at k1
     ·rename_i hH
      split at k1
      ·rename_i hfree
       cases k1
       intro i y hy
       rw[List.getElem?_set] at hy
       split at hy
       ·rename_i hi
        split at hy
        ·cases hy
         refine⟨.inr ⟨m,by omega,rfl⟩,fun k t' hk ht'=>?_⟩
         by_cases e:k=m
         ·subst e
          rw[ht] at ht';cases ht'
          exact⟨fun _=>rfl,fun _=>by rw[←hi];exact(Int.toNat_of_nonneg hH).symm⟩
         ·have:=(a2 (bJ t n).toNat (-1) hfree).2 k t' (by omega) ht'
          constructor
          ·intro q
           have:(-1:Int)=(k:Int):=this.1 (by omega)
           omega
          ·intro q;omega
        ·cases hy
       ·rename_i hi
        obtain⟨b1,b2⟩:=a2 i y hy
        refine⟨b1.imp id fun⟨k,hk,e⟩=>⟨k,Nat.lt_succ_of_lt hk,e⟩,fun k t' hk ht'=>?_⟩
        by_cases e:k=m
        ·subst e
         rw[ht] at ht';cases ht'
         constructor
         ·intro q;exact absurd (by rw[q,Int.toNat_natCast]) hi
         ·intro q
          exfalso
          rcases b1 with b1|⟨k',hk',e'⟩<;>omega
        ·exact b2 k t' (by omega) ht'
      ·cases k1
     ·rename_i hH
      cases k1
      intro i y hy
      obtain⟨b1,b2⟩:=a2 i y hy
      refine⟨b1.imp id fun⟨k,hk,e⟩=>⟨k,Nat.lt_succ_of_lt hk,e⟩,fun k t' hk ht'=>?_⟩
      by_cases e:k=m
      ·subst e
       rw[ht] at ht';cases ht'
       constructor
       ·intro q;omega
       ·intro q
        exfalso
        rcases b1 with b1|⟨k',hk',e'⟩<;>omega
      ·exact b2 k t' (by omega) ht'
    ·unfold kS at k2
     split at k2
     ·split at k2
      ·cases k2;exact .inr ⟨m,by omega,rfl⟩
      ·cases k2
     ·cases k2;exact a3.imp id fun⟨k,hk,e⟩=>⟨k,Nat.lt_succ_of_lt hk,e⟩
    ·intro k t' hk ht'
     unfold kS at k2
     by_cases e:k=m
     ·subst e
      rw[ht] at ht';cases ht'
      split at k2
      ·rename_i hr
       split at k2
       ·cases k2;exact⟨fun _=>rfl,fun _=>hr⟩
       ·cases k2
      ·rename_i hr
       cases k2
       refine⟨fun q=>absurd q hr,fun q=>?_⟩
       rcases a3 with b1|⟨k',hk',e'⟩<;>omega
     ·have:=a4 k t' (by omega) ht'
      split at k2
      ·rename_i hr
       split at k2
       ·rename_i h1
        cases k2
        rw[this]
        constructor
        ·intro q;omega
        ·intro q;omega
       ·cases k2
      ·cases k2;exact this
  ·rintro⟨h1,h2,h3,h4⟩
   have e0:dB n l m=some (hs.map (fun y=>if y=(m:Int) then -1 else y),if r=(m:Int) then -1 else r):=by
    rw[ih]
    refine⟨by simpa using h1,fun i y hy=>?_,?_,fun k t' hk ht'=>?_⟩
    ·rw[List.getElem?_map] at hy
     cases hz:hs[i]? with
     |none=>rw[hz] at hy;cases hy
     |some z=>
      rw[hz] at hy
      simp only[Option.map_some,Option.some.injEq] at hy
      obtain⟨b1,b2⟩:=h2 i z hz
      refine⟨?_,fun k t' hk ht'=>?_⟩
      ·subst hy
       split
       ·exact .inl rfl
       ·rcases b1 with b1|⟨k,hk,e⟩
        ·exact .inl b1
        ·exact .inr ⟨k,by omega,e⟩
      ·rw[b2 k t' (by omega) ht']
       subst hy
       split
       ·constructor
        ·intro q;omega
        ·intro q;omega
       ·exact Iff.rfl
    ·split
     ·exact .inl rfl
     ·rcases h3 with b1|⟨k,hk,e⟩
      ·exact .inl b1
      ·exact .inr ⟨k,by omega,e⟩
    ·rw[h4 k t' (by omega) ht']
     split
     ·constructor
      ·intro q;omega
      ·intro q;omega
     ·exact Iff.rfl
   refine Ch e0 ht ?_ ?_
   ·by_cases hH:0≤bJ t n
    ·obtain⟨z,hz⟩:∃ z,hs[(bJ t n).toNat]? =some z:=⟨hs[(bJ t n).toNat]'(by rw[h1];have:=hb.2 hH;omega),List.getElem?_eq_getElem _⟩
     have hzm:z=(m:Int):=((h2 _ z hz).2 m t (by omega) ht).1 (by omega)
     subst hzm
     rw[Vu (y:=-1) hH (by rw[List.getElem?_map,hz];simp) rfl]
     congr 1
     apply List.ext_getElem?
     intro i
     rw[List.getElem?_set]
     split
     ·rename_i hi
      subst hi
      rw[hz]
      have hlt:=(List.getElem?_eq_some_iff.1 hz).1
      simp[hlt]
     ·rename_i hi
      rw[List.getElem?_map]
      cases hy:hs[i]? with
      |none=>rfl
      |some y=>
       have:=((h2 i y hy).2 m t (by omega) ht)
       have hne:y≠(m:Int):=fun q=>by have:=this.2 q;omega
       simp[hne]
    ·rw[Vv (by omega)]
     congr 1
     apply List.ext_getElem?
     intro i
     rw[List.getElem?_map]
     cases hy:hs[i]? with
     |none=>rfl
     |some y=>
      have:=((h2 i y hy).2 m t (by omega) ht)
      have hne:y≠(m:Int):=fun q=>by have:=this.2 q;omega
      simp[hne]
   ·have h4m:=h4 m t (by omega) ht
    by_cases hr:t.op=2∧t.pc=2
    ·have:=h4m.1 hr
     subst this
     rw[if_pos rfl]
     exact LX hr rfl
    ·have:r≠(m:Int):=fun q=>hr (h4m.2 q)
     rw[if_neg this]
     exact LY hr
def nE (x:Wld):Prop:=
 (∀ (i:Nat) (s:aR),x.st[i]? =some s→(s.held= -1∨∃ k:Nat,k < x.tasks.length∧s.held=(k:Int))∧∀ (k:Nat) (t:Task),x.tasks[k]? =some t→(bJ t x.st.length=(i:Int)↔s.held=(k:Int)))∧
 (x.bg= -1∨∃ k:Nat,k < x.tasks.length∧x.bg=(k:Int))∧∀ (k:Nat) (t:Task),x.tasks[k]? =some t→((t.op=2∧t.pc=2)↔x.bg=(k:Int))
theorem Tc {x:Wld}:Hf x↔nE x:=by
 unfold Hf nE
 constructor
 ·rintro⟨hs,r,h,hst,rfl⟩
  obtain⟨h1,h2,h3,h4⟩:=(Ll _ (Nat.le_refl _) hs _).1 h
  refine⟨fun i s hs'=>?_,h3,fun k t ht=>h4 k t (List.getElem?_eq_some_iff.1 ht).1 ht⟩
  obtain⟨b1,b2⟩:=h2 i s.held (hst i s hs')
  exact⟨b1,fun k t ht=>b2 k t (List.getElem?_eq_some_iff.1 ht).1 ht⟩
 ·rintro⟨h1,h2,h3⟩
  refine⟨x.st.map (·.held),x.bg,(Ll _ (Nat.le_refl _) _ _).2 ⟨by simp,fun i y hy=>?_,h2,fun k t _ ht=>h3 k t ht⟩,fun i s hs=>by rw[List.getElem?_map,hs];rfl,rfl⟩
  rw[List.getElem?_map] at hy
  cases hs:x.st[i]? with
  |none=>rw[hs] at hy;cases hy
  |some s=>
   rw[hs] at hy
   simp only[Option.map_some,Option.some.injEq] at hy
   subst hy
   exact⟨(h1 i s hs).1,fun k t _ ht=>(h1 i s hs).2 k t ht⟩
end Go.Proofs.YtcgjihfngdhjjaaGreat
end
section
set_option linter.unusedSimpArgs false
set_option linter.unusedVariables false
set_option maxHeartbeats 2000000
namespace Go.Proofs.YtcgjihfngdhjjaaGreat
open Go Go.Ab
def xJ (xs:List bO) (v:bO):List bO:=xs.filter fun x=>!isT v.trace x
theorem UN {xs:List bO} {v:bO} {m:Int} (hm: ¬ m < 1):(rem xs v m).1=(xJ xs v).drop ((xJ xs v).length+1 - m.toNat)++[v]:=by
 unfold rem
 rw[if_neg hm]
 have hl:(jK xs v).length=(xJ xs v).length+1:=by simp[jK,xJ]
 rw[hl]
 show((xJ xs v)++[v]).drop _=_
 rw[List.drop_append_of_le_length (by omega)]
theorem UL {xs:List bO} {v x:bO} (hx:x∈xJ xs v):x∈xs∧x.trace≠v.trace:=by
 have:=List.mem_filter.1 hx
 simpa[isT] using this
def vOk (v:bO):Prop:=(1≤v.trace∧v.trace≤999)∧1≤v.stamp
theorem zI {xs:List bO} {k:Int}:cOk xs k↔(∀ x∈xs,vOk x)∧xs.Pairwise (fun a b=>a.trace≠b.trace)∧(xs.length:Int)≤k:=by
 unfold cOk
 constructor
 ·rintro⟨h1,h2⟩
  refine⟨fun x hx=>?_,?_,h2⟩
  ·obtain⟨i,hi⟩:=List.mem_iff_getElem?.1 hx
   exact⟨(h1 i x hi).1,(h1 i x hi).2.1⟩
  ·rw[List.pairwise_iff_getElem]
   intro i j hi hj hij
   exact(h1 j xs[j] (List.getElem?_eq_getElem hj)).2.2 i xs[i] hij (List.getElem?_eq_getElem hi)
 ·rintro⟨h1,h2,h3⟩
  refine⟨fun i v hv=>?_,h3⟩
  have:=h1 v (List.mem_of_getElem? hv)
  refine⟨this.1,this.2,fun j u hj hu=>?_⟩
  rw[List.pairwise_iff_getElem] at h2
  obtain⟨hi',rfl⟩:=List.getElem?_eq_some_iff.1 hv
  obtain⟨hj',rfl⟩:=List.getElem?_eq_some_iff.1 hu
  exact h2 j i hj' hi' hj
theorem aiM {xs ys:List bO} {v:bO} {m:Int} (hx:cOk xs m) (hs:ys.Sublist (xJ xs v)) (hl:((ys++[v]).length:Int)≤m):cOk (ys++[v]) m↔cOk [v] m:=by
 rw[zI] at hx
 obtain⟨h1,h2,h3⟩:=hx
 have hin:∀ x∈ys,x∈xs∧x.trace≠v.trace:=fun x hxy=>UL (hs.subset hxy)
 have hp:ys.Pairwise (fun a b=>a.trace≠b.trace):=(h2.sublist (hs.trans List.filter_sublist))
 rw[zI,zI]
 constructor
 ·rintro⟨g1,-,-⟩
  refine⟨fun x hx=>g1 x (by simp[List.mem_singleton.1 hx]),List.pairwise_singleton _ _,?_⟩
  simp only[List.length_append,List.length_singleton] at hl ⊢;omega
 ·rintro⟨g1,-,-⟩
  refine⟨fun x hx=>?_,?_,hl⟩
  ·rcases List.mem_append.1 hx with q|q
   ·exact h1 x (hin x q).1
   ·exact g1 x q
  ·refine List.pairwise_append.2 ⟨hp,List.pairwise_singleton _ _,fun a ha b hb=>?_⟩
   rw[List.mem_singleton.1 hb];exact(hin a ha).2
end Go.Proofs.YtcgjihfngdhjjaaGreat
end
section
set_option linter.unusedSimpArgs false
set_option linter.unusedVariables false
namespace Go.Proofs.YtcgjihfngdhjjaaGreat
open Go Go.Ab
structure WI (x:Wld):Prop where
 conf:nI x.c
 time:0≤x.time
 next:1≤x.next
 st:mg x.st
 stl:(x.st.length:Int)=x.c.dK
 b:iT x.b
 bc:x.b.rate=x.c.rate∧x.b.aZ=x.c.aZ∧x.b.at_≤x.w.now
 cache:cOk x.cache x.c.cache
 used:x.used=held x.st
 budget:x.used≤x.c.budget
 w:kK x.w
 now:x.w.now≤100000
 shut:x.shut=true→timers x.w=[]
 ql:(x.queue.length:Int)≤x.c.queue
 queue:∀ y∈x.queue,kZ y
 out:∀ y∈x.out,kZ y
 aF:∀ d∈x.aF,jL d∧d.inv < x.time∧d.lin < x.time∧d.res < x.time
 tl:x.tasks.length=5
 iX:∀ t∈allT x.st,t.stamp < x.next∧known x t.id t.stamp
 cst:∀ v∈x.cache,v.stamp < x.next
 tms:∀ t∈eO x,(1≤t.id∧t.id≤x.next - 1)∧(1≤t.trace∧t.trace≤999)
 tasks:∀ (k:Nat) (t:Task),x.tasks[k]? =some t→lq x k t∧t.stamp < x.next
 dB:nE x
theorem KP {x:Wld}:GR x↔WI x:=by
 constructor
 ·rintro⟨⟨h1,h2,h3,h4,h5,h6,h7,h8,h9,h10,h11,h12,h13,h14,h15,h16,h17,h18,h19⟩,h20,⟨h21,h22,h23⟩,h24,h25⟩
  refine⟨h1,h2,h3,QX.1 h4,h5,h6,⟨h7,h8,h9⟩,h10,h11,h12,h13,h14,fun hs=>?_,h16,h17,h18,h19,by omega,fun t ht=>?_,h22,h23,h24,Tc.1 h25⟩
  ·have:=h15 hs
   exact List.length_eq_zero_iff.1 (by omega)
  ·obtain⟨i,s,hs,hts⟩:=zk.1 ht
   exact h21 i s hs t hts
 ·intro h
  refine⟨⟨h.conf,h.time,h.next,QX.2 h.st,h.stl,h.b,h.bc.1,h.bc.2.1,h.bc.2.2,h.cache,h.used,h.budget,h.w,h.now,fun hs=>by rw[h.shut hs];simp,h.ql,h.queue,h.out,h.aF⟩,by have:=h.tl;omega,⟨fun i s hs t ht=>h.iX t (zk.2 ⟨i,s,hs,ht⟩),h.cst,h.tms⟩,h.tasks,Tc.2 h.dB⟩
theorem Lj {x x':Wld} {k:Nat} {t t':Task} (h:nE x) (ht:x.tasks[k]? =some t) (htk:x'.tasks=x.tasks.set k t') (hlen:x'.st.length=x.st.length)
  (hst:∀ (i:Nat) (s':aR),x'.st[i]? =some s'→∃ s,x.st[i]? =some s∧s'.held=if bJ t' x.st.length=(i:Int) then(k:Int) else if bJ t x.st.length=(i:Int) then -1 else s.held)
  (hfree:0≤bJ t' x.st.length→bJ t' x.st.length≠bJ t x.st.length→∀ (i:Nat) (s:aR),(i:Int)=bJ t' x.st.length→x.st[i]? =some s→s.held= -1)
  (hr:x'.bg=if t'.op=2∧t'.pc=2 then(k:Int) else if t.op=2∧t.pc=2 then -1 else x.bg)
  (hrf:(t'.op=2∧t'.pc=2)→¬ (t.op=2∧t.pc=2)→x.bg= -1):nE x':=by
 obtain⟨h1,h2,h3⟩:=h
 have hk:k < x.tasks.length:=(List.getElem?_eq_some_iff.1 ht).1
 have get:∀ (j:Nat) (u:Task),x'.tasks[j]? =some u→(j=k∧u=t')∨(j≠k∧x.tasks[j]? =some u):=fun j u hu=>by
  rw[htk,List.getElem?_set] at hu
  split at hu
  ·rename_i e
   cases hu;exact .inl ⟨e.symm,rfl⟩
  ·rename_i e;exact .inr ⟨fun q=>e q.symm,hu⟩
 have hl5:x'.tasks.length=x.tasks.length:=by rw[htk];simp
 refine⟨fun i s' hs'=>?_,?_,fun j u hu=>?_⟩
 ·obtain⟨s,hs,he⟩:=hst i s' hs'
  obtain⟨a1,a2⟩:=h1 i s hs
  rw[hl5,hlen]
  refine⟨?_,fun j u hu=>?_⟩
  ·rw[he]
   split
   ·exact .inr ⟨k,hk,rfl⟩
   ·split
    ·exact .inl rfl
    ·exact a1
  ·rw[he]
   rcases get j u hu with⟨rfl,rfl⟩|⟨hj,hu'⟩
   ·have at_:=a2 j t ht
    split
    ·rename_i e;exact⟨fun _=>rfl,fun _=>e⟩
    ·rename_i e
     split
     ·exact⟨fun q=>absurd q e,fun q=>by omega⟩
     ·rename_i e2
      exact⟨fun q=>absurd q e,fun q=>absurd (at_.2 q) e2⟩
   ·have au:=a2 j u hu'
    have at_:=a2 k t ht
    split
    ·rename_i e
     constructor
     ·intro q
      have hsj:=au.1 q
      by_cases e2:bJ t x.st.length=(i:Int)
      ·have:=at_.1 e2;omega
      ·have:=hfree (by omega) (by omega) i s e.symm hs
       omega
     ·intro q;omega
    ·split
     ·rename_i e e2
      have hsk:=at_.1 e2
      constructor
      ·intro q;have:=au.1 q;omega
      ·intro q;omega
     ·exact au
 ·rw[hr,hl5]
  split
  ·exact .inr ⟨k,hk,rfl⟩
  ·split
   ·exact .inl rfl
   ·exact h2
 ·rw[hr]
  rcases get j u hu with⟨rfl,rfl⟩|⟨hj,hu'⟩
  ·have at_:=h3 j t ht
   split
   ·rename_i e;exact⟨fun _=>rfl,fun _=>e⟩
   ·rename_i e
    split
    ·exact⟨fun q=>absurd q e,fun q=>by omega⟩
    ·rename_i e2
     exact⟨fun q=>absurd q e,fun q=>absurd (at_.2 q) e2⟩
  ·have au:=h3 j u hu'
   have at_:=h3 k t ht
   split
   ·rename_i e
    constructor
    ·intro q
     have:=au.1 q
     by_cases e2:t.op=2∧t.pc=2
     ·have:=at_.1 e2;omega
     ·have:=hrf e e2;omega
    ·intro q;omega
   ·split
    ·rename_i e e2
     have:=at_.1 e2
     constructor
     ·intro q;have:=au.1 q;omega
     ·intro q;omega
    ·exact au
theorem Le {x x':Wld} {k:Nat} {t t':Task} (h:∀ (k:Nat) (t:Task),x.tasks[k]? =some t→lq x k t∧t.stamp < x.next) (ht:x.tasks[k]? =some t) (htk:x'.tasks=x.tasks.set k t') (hn:x.next≤x'.next)
  (hd:∀ (i:Nat) (d:aW),x.aF[i]? =some d→d.task≠(k:Int)→x'.aF[i]? =some d) (h':lq x' k t'∧t'.stamp < x'.next):∀ (j:Nat) (u:Task),x'.tasks[j]? =some u→lq x' j u∧u.stamp < x'.next:=by
 intro j u hu
 rw[htk,List.getElem?_set] at hu
 split at hu
 ·rename_i e
  split at hu
  ·cases hu;subst e;exact h'
  ·cases hu
 ·rename_i e
  obtain⟨⟨a1,a2⟩,a3⟩:=h j u hu
  refine⟨⟨a1,fun hop=>?_⟩,by omega⟩
  have hde:=a2 hop
  unfold mO at hde ⊢
  cases hg:x.aF[u.h.toNat]? with
  |none=>rw[hg] at hde;exact hde.elim
  |some d=>
   rw[hg] at hde
   have hde:nk j u d:=hde
   rw[hd _ d hg (by have:=hde.1;omega)]
   exact hde
end Go.Proofs.YtcgjihfngdhjjaaGreat
end
