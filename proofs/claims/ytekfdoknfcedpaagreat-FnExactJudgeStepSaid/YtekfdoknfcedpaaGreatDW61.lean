import Derived.Test.YtekfdoknfcedpaaGreatDW60
set_option linter.unusedSimpArgs false
set_option linter.unusedVariables false
namespace Go.Proofs.YtekfdoknfcedpaaGreat
open Go Go.Ab
def akD (n:Nat) (l:List Task) (m:Nat) (hs:List Int) (r:Int):Prop:=
 hs.length=n∧(∀ (i:Nat) (y:Int),hs[i]? =some y→(y= -1∨∃ k:Nat,k < m∧y=(k:Int))∧∀ (k:Nat) (t:Task),k < m→l[k]? =some t→(dU t n=(i:Int)↔y=(k:Int)))∧
 (r= -1∨∃ k:Nat,k < m∧r=(k:Int))∧∀ (k:Nat) (t:Task),k < m→l[k]? =some t→((t.op=2∧t.pc=2)↔r=(k:Int))
theorem alM {hs:List Int} {n:Nat} (hl:hs.length=n) (h:∀ (i:Nat) (y:Int),hs[i]? =some y→y= -1):hs=List.replicate n (-1):=by
 subst hl
 refine List.eq_replicate_iff.2 ⟨rfl,fun y hy=>?_⟩
 obtain⟨i,hi⟩:=List.mem_iff_getElem?.1 hy
 exact h i y hi
theorem JQ {n:Nat} {l:List Task}:∀ (m:Nat),m≤l.length→∀ (hs:List Int) (r:Int),dS n l m=some (hs,r)↔akD n l m hs r
 |0,_,hs,r=>by
  simp only[dS,Option.some.injEq,Prod.mk.injEq]
  constructor
  ·rintro⟨rfl,rfl⟩
   refine⟨by simp,fun i y hy=>⟨.inl ?_,fun k t hk=>absurd hk (Nat.not_lt_zero _)⟩,.inl rfl,fun k t hk=>absurd hk (Nat.not_lt_zero _)⟩
   exact List.eq_of_mem_replicate (List.mem_of_getElem? hy)
  ·rintro⟨h1,h2,h3,-⟩
   refine⟨(alM h1 fun i y hy=>?_).symm,?_⟩
   ·rcases(h2 i y hy).1 with e|⟨k,hk,-⟩
    ·exact e
    ·exact absurd hk (Nat.not_lt_zero _)
   ·rcases h3 with e|⟨k,hk,-⟩
    ·exact e.symm
    ·exact absurd hk (Nat.not_lt_zero _)
 |m+1,hm,hs,r=>by
  obtain⟨t,ht⟩:∃ t,l[m]? =some t:=⟨l[m],List.getElem?_eq_getElem (by omega)⟩
  have hb:=Kh t n
  have ih:=JQ (n:=n) (l:=l) m (by omega)
  constructor
  ·intro h
   cases h0:dS n l m with
   |none=>rw[oI h0 (Nat.le_succ m)] at h;cases h
   |some s=>
    obtain⟨hs0,r0⟩:=s
    obtain⟨a1,a2,a3,a4⟩:=(ih hs0 r0).1 h0
    have hk:iV n hs0 m t=some hs∧iW r0 m t=some r:=by
     simp only[dS,h0,ht,uR] at h
     cases e1:iV n hs0 m t with
     |none=>rw[e1] at h;simp at h
     |some x=>
      cases e2:iW r0 m t with
      |none=>rw[e1,e2] at h;simp at h
      |some z=>rw[e1,e2] at h;simp at h;exact⟨by rw[h.1],by rw[h.2]⟩
    obtain⟨k1,k2⟩:=hk
    refine⟨?_,?_,?_,?_⟩
    ·unfold iV at k1
     split at k1
     ·split at k1
      ·cases k1;simpa using a1
      ·cases k1
     ·cases k1;exact a1
    ·unfold iV at k1
     split at k1
     ·rename_i hH
      split at k1
      ·rename_i hfree
       cases k1
       intro i y hy
       rw[List.getElem?_set] at hy
       split at hy
       ·rename_i hi
        split at hy
        ·cases hy
         refine⟨.inr ⟨m,by omega,rfl⟩,fun k t' hk ht'=>?_⟩
         by_cases e:k=m
         ·subst e
          rw[ht] at ht';cases ht'
          exact⟨fun _=>rfl,fun _=>by rw[←hi];exact(Int.toNat_of_nonneg hH).symm⟩
         ·have:=(a2 (dU t n).toNat (-1) hfree).2 k t' (by omega) ht'
          constructor
          ·intro q
           have:(-1:Int)=(k:Int):=this.1 (by omega)
           omega
          ·intro q;omega
        ·cases hy
       ·rename_i hi
        obtain⟨b1,b2⟩:=a2 i y hy
        refine⟨b1.imp id fun⟨k,hk,e⟩=>⟨k,Nat.lt_succ_of_lt hk,e⟩,fun k t' hk ht'=>?_⟩
        by_cases e:k=m
        ·subst e
         rw[ht] at ht';cases ht'
         constructor
         ·intro q;exact absurd (by rw[q,Int.toNat_natCast]) hi
         ·intro q
          exfalso
          rcases b1 with b1|⟨k',hk',e'⟩<;>omega
        ·exact b2 k t' (by omega) ht'
      ·cases k1
     ·rename_i hH
      cases k1
      intro i y hy
      obtain⟨b1,b2⟩:=a2 i y hy
      refine⟨b1.imp id fun⟨k,hk,e⟩=>⟨k,Nat.lt_succ_of_lt hk,e⟩,fun k t' hk ht'=>?_⟩
      by_cases e:k=m
      ·subst e
       rw[ht] at ht';cases ht'
       constructor
       ·intro q;omega
       ·intro q
        exfalso
        rcases b1 with b1|⟨k',hk',e'⟩<;>omega
      ·exact b2 k t' (by omega) ht'
    ·unfold iW at k2
     split at k2
     ·split at k2
      ·cases k2;exact .inr ⟨m,by omega,rfl⟩
      ·cases k2
     ·cases k2;exact a3.imp id fun⟨k,hk,e⟩=>⟨k,Nat.lt_succ_of_lt hk,e⟩
    ·intro k t' hk ht'
     unfold iW at k2
     by_cases e:k=m
     ·subst e
      rw[ht] at ht';cases ht'
      split at k2
      ·rename_i hr
       split at k2
       ·cases k2;exact⟨fun _=>rfl,fun _=>hr⟩
       ·cases k2
      ·rename_i hr
       cases k2
       refine⟨fun q=>absurd q hr,fun q=>?_⟩
       rcases a3 with b1|⟨k',hk',e'⟩<;>omega
     ·have:=a4 k t' (by omega) ht'
      split at k2
      ·rename_i hr
       split at k2
       ·rename_i h1
        cases k2
        rw[this]
        constructor
        ·intro q;omega
        ·intro q;omega
       ·cases k2
      ·cases k2;exact this
  ·rintro⟨h1,h2,h3,h4⟩
   have e0:dS n l m=some (hs.map (fun y=>if y=(m:Int) then -1 else y),if r=(m:Int) then -1 else r):=by
    rw[ih]
    refine⟨by simpa using h1,fun i y hy=>?_,?_,fun k t' hk ht'=>?_⟩
    ·rw[List.getElem?_map] at hy
     cases hz:hs[i]? with
     |none=>rw[hz] at hy;cases hy
     |some z=>
      rw[hz] at hy
      simp only[Option.map_some,Option.some.injEq] at hy
      obtain⟨b1,b2⟩:=h2 i z hz
      refine⟨?_,fun k t' hk ht'=>?_⟩
      ·subst hy
       split
       ·exact .inl rfl
       ·rcases b1 with b1|⟨k,hk,e⟩
        ·exact .inl b1
        ·exact .inr ⟨k,by omega,e⟩
      ·rw[b2 k t' (by omega) ht']
       subst hy
       split
       ·constructor
        ·intro q;omega
        ·intro q;omega
       ·exact Iff.rfl
    ·split
     ·exact .inl rfl
     ·rcases h3 with b1|⟨k,hk,e⟩
      ·exact .inl b1
      ·exact .inr ⟨k,by omega,e⟩
    ·rw[h4 k t' (by omega) ht']
     split
     ·constructor
      ·intro q;omega
      ·intro q;omega
     ·exact Iff.rfl
   refine ni e0 ht ?_ ?_
   ·by_cases hH:0≤dU t n
    ·obtain⟨z,hz⟩:∃ z,hs[(dU t n).toNat]? =some z:=⟨hs[(dU t n).toNat]'(by rw[h1];have:=hb.2 hH;omega),List.getElem?_eq_getElem _⟩
     have hzm:z=(m:Int):=((h2 _ z hz).2 m t (by omega) ht).1 (by omega)
     subst hzm
     rw[J9 (y:=-1) hH (by rw[List.getElem?_map,hz];simp) rfl]
     congr 1
     apply List.ext_getElem?
     intro i
     rw[List.getElem?_set]
     split
     ·rename_i hi
      subst hi
      rw[hz]
      have hlt:=(List.getElem?_eq_some_iff.1 hz).1
      simp[hlt]
     ·rename_i hi
      rw[List.getElem?_map]
      cases hy:hs[i]? with
      |none=>rfl
      |some y=>
       have:=((h2 i y hy).2 m t (by omega) ht)
       have hne:y≠(m:Int):=fun q=>by have:=this.2 q;omega
       simp[hne]
    ·rw[Ka (by omega)]
     congr 1
     apply List.ext_getElem?
     intro i
     rw[List.getElem?_map]
     cases hy:hs[i]? with
     |none=>rfl
     |some y=>
      have:=((h2 i y hy).2 m t (by omega) ht)
      have hne:y≠(m:Int):=fun q=>by have:=this.2 q;omega
      simp[hne]
   ·have h4m:=h4 m t (by omega) ht
    by_cases hr:t.op=2∧t.pc=2
    ·have:=h4m.1 hr
     subst this
     rw[if_pos rfl]
     exact xY hr rfl
    ·have:r≠(m:Int):=fun q=>hr (h4m.2 q)
     rw[if_neg this]
     exact xZ hr
def KC (x:Wld):Prop:=
 (∀ (i:Nat) (s:aU),x.st[i]? =some s→(s.held= -1∨∃ k:Nat,k < x.tasks.length∧s.held=(k:Int))∧∀ (k:Nat) (t:Task),x.tasks[k]? =some t→(dU t x.st.length=(i:Int)↔s.held=(k:Int)))∧
 (x.bH= -1∨∃ k:Nat,k < x.tasks.length∧x.bH=(k:Int))∧∀ (k:Nat) (t:Task),x.tasks[k]? =some t→((t.op=2∧t.pc=2)↔x.bH=(k:Int))
theorem RU {x:Wld}:Ei x↔KC x:=by
 unfold Ei KC
 constructor
 ·rintro⟨hs,r,h,hst,rfl⟩
  obtain⟨h1,h2,h3,h4⟩:=(JQ _ (Nat.le_refl _) hs _).1 h
  refine⟨fun i s hs'=>?_,h3,fun k t ht=>h4 k t (List.getElem?_eq_some_iff.1 ht).1 ht⟩
  obtain⟨b1,b2⟩:=h2 i s.held (hst i s hs')
  exact⟨b1,fun k t ht=>b2 k t (List.getElem?_eq_some_iff.1 ht).1 ht⟩
 ·rintro⟨h1,h2,h3⟩
  refine⟨x.st.map (·.held),x.bH,(JQ _ (Nat.le_refl _) _ _).2 ⟨by simp,fun i y hy=>?_,h2,fun k t _ ht=>h3 k t ht⟩,fun i s hs=>by rw[List.getElem?_map,hs];rfl,rfl⟩
  rw[List.getElem?_map] at hy
  cases hs:x.st[i]? with
  |none=>rw[hs] at hy;cases hy
  |some s=>
   rw[hs] at hy
   simp only[Option.map_some,Option.some.injEq] at hy
   subst hy
   exact⟨(h1 i s hs).1,fun k t _ ht=>(h1 i s hs).2 k t ht⟩
end Go.Proofs.YtekfdoknfcedpaaGreat
