import Derived.Test.YtcgjihfngdhjjaaGreatDW67
set_option linter.unusedSimpArgs false
set_option linter.unusedVariables false
namespace Go.Proofs.YtcgjihfngdhjjaaGreat
open Go Go.Ab
def iZ (now:Int) (p:bn × List Ab.Timer) (t:Ab.Timer):bn × List Ab.Timer:=if t.at_≤now then(p.1,p.2++[t]) else(dV p.1 t,p.2)
def fT (w:bn):List Ab.Timer:=(w.near[((w.now+1) % 8).toNat]?).getD []
def fJ (w:bn):List Ab.Timer:=(w.far[((w.now+1) / 8 % 8).toNat]?).getD []
def iW (w:bn):bn:=⟨w.now+1,w.near.set ((w.now+1) % 8).toNat [],w.far,w.rest⟩
def gT (w:bn):bn:=⟨w.now+1,w.near.set ((w.now+1) % 8).toNat [],w.far.set ((w.now+1) / 8 % 8).toNat [],[]⟩
def gL (w:bn):bn × List Ab.Timer:=
 if(w.now+1) % 8≠0 then(iW w,fT w) else(fJ w++w.rest).foldl (iZ (w.now+1)) (gT w,fT w)
theorem Gl {now:Int}:∀ (l:List Ab.Timer) (p:bn × List Ab.Timer),WhI p.1→p.1.now=now→((timers p.1++p.2++l).map (·.id)).Nodup→(timers p.1++p.2++l).length≤16→(∀ t∈l,1≤t.id∧(1≤t.trace∧t.trace≤999)∧now≤t.at_∧t.at_≤2147483647)→WhI (l.foldl (iZ now) p).1∧(l.foldl (iZ now) p).1.now=now∧(timers (l.foldl (iZ now) p).1++(l.foldl (iZ now) p).2).Perm (timers p.1++p.2++l)∧∀ t∈(l.foldl (iZ now) p).2,t∈p.2∨t.at_=now
 |[],p,h1,h2,h3,h4,h5=>⟨h1,h2,by simp,fun t ht=>.inl ht⟩
 |a::l,p,h1,h2,h3,h4,h5=>by
  have ha:=h5 a (by simp)
  rw[List.foldl_cons]
  by_cases hd:a.at_≤now
  ·have e:iZ now p a=(p.1,p.2++[a]):=if_pos hd
   rw[e]
   have q:(timers p.1++(p.2++[a])++l)=timers p.1++p.2++a::l:=by simp
   obtain⟨a1,a2,a3,a4⟩:=Gl l (p.1,p.2++[a]) h1 h2 (by rw[q];exact h3) (by rw[q];exact h4) fun t ht=>h5 t (List.mem_cons_of_mem _ ht)
   refine⟨a1,a2,by rw[q] at a3;exact a3,fun t ht=>?_⟩
   rcases a4 t ht with b|b
   ·rcases List.mem_append.1 b with b|b
    ·exact .inl b
    ·rw[List.mem_singleton.1 b];exact .inr (by omega)
   ·exact .inr b
  ·have e:iZ now p a=(dV p.1 a,p.2):=if_neg hd
   rw[e]
   have hlt:p.1.now < a.at_:=by omega
   have hnew:∀ u∈timers p.1,u.id≠a.id:=fun u hu he=>by
    rw[List.map_append,List.nodup_append] at h3
    exact h3.2.2 _ (List.mem_map.2 ⟨u,List.mem_append_left _ hu,rfl⟩) _ (List.mem_map.2 ⟨a,by simp,rfl⟩) he
   have hl:(timers p.1).length≤15:=by simp only[List.length_append,List.length_cons] at h4;omega
   have hp:=BZ h1 hlt
   have pp:(timers (dV p.1 a)++p.2++l).Perm (timers p.1++p.2++a::l):=by
    have:=(hp.append_right p.2).append_right l
    refine this.trans ?_
    simp only[List.cons_append,List.append_assoc]
    refine(List.perm_middle (l₁:=timers p.1++p.2) (a:=a) (l₂:=l)).symm.trans ?_ |>.trans (List.Perm.refl _) |> fun h=>by simpa using h
    simp
   obtain⟨a1,a2,a3,a4⟩:=Gl l (dV p.1 a,p.2) (ME h1 hlt ha.2.2.2 ha.1 ha.2.1 hnew hl) (by rw[wW];exact h2) (by rw[(pp.map _).nodup_iff];exact h3) (by rw[pp.length_eq];exact h4) fun t ht=>h5 t (List.mem_cons_of_mem _ ht)
   exact⟨a1,a2,a3.trans pp,a4⟩
theorem FZ {α:Type} {l:List (List α)} {i:Nat} (hi:i < l.length):((l.set i []).flatten++(l[i]?).getD []).Perm l.flatten:=by
 obtain⟨a,ha⟩:∃ a,l[i]? =some a:=⟨l[i],List.getElem?_eq_getElem hi⟩
 rw[ha,Option.getD_some,BI ha]
 conv=>rhs;rw[oC ha]
 simp only[List.flatten_append,List.flatten_cons,List.nil_append,List.append_assoc]
 exact List.Perm.append_left _ List.perm_append_comm
theorem MU {w:bn} (h:WhI w) (hn:w.now < 2147483647) (hs:(w.now+1) % 8=0):WhI (gT w)∧((timers (gT w)++fT w++(fJ w++w.rest)).map (·.id)).Nodup∧(timers (gT w)++fT w++(fJ w++w.rest)).length≤16∧(∀ t∈fJ w++w.rest,1≤t.id∧(1≤t.trace∧t.trace≤999)∧w.now+1≤t.at_∧t.at_≤2147483647)∧(timers (gT w)++fT w++(fJ w++w.rest)).Perm (timers w)∧fT w=[]:=by
 have h0:=h.now
 have hnl:=h.nl
 have hfl:=h.fl
 have m8:=(⟨Int.emod_nonneg (w.now+1) (by decide),Int.emod_lt_of_pos (w.now+1) (by decide)⟩:0≤(w.now+1) % 8∧(w.now+1) % 8 < 8)
 have m88:=(⟨Int.emod_nonneg ((w.now+1) / 8) (by decide),Int.emod_lt_of_pos ((w.now+1) / 8) (by decide)⟩:0≤(w.now+1) / 8 % 8∧(w.now+1) / 8 % 8 < 8)
 have fN:=FZ (l:=w.near) (i:=((w.now+1) % 8).toNat) (by omega)
 have fF:=FZ (l:=w.far) (i:=((w.now+1) / 8 % 8).toNat) (by omega)
 obtain⟨nA,hA⟩:∃ a,w.near[((w.now+1) % 8).toNat]? =some a:=⟨w.near[((w.now+1) % 8).toNat]'(by omega),List.getElem?_eq_getElem _⟩
 obtain⟨fA,hB⟩:∃ a,w.far[((w.now+1) / 8 % 8).toNat]? =some a:=⟨w.far[((w.now+1) / 8 % 8).toNat]'(by omega),List.getElem?_eq_getElem _⟩
 have eN:fT w=nA:=by unfold fT;rw[hA];rfl
 have eF:fJ w=fA:=by unfold fJ;rw[hB];rfl
 have YO:∀ (i:Nat) (a:List Ab.Timer),w.near[i]? =some a→a=[]:=fun i a ha=>by
  cases a with
  |nil=>rfl
  |cons t l=>
   obtain⟨a1,a2,a3,a4,a5⟩:=h.near i _ ha t (by simp)
   omega
 have nA0:nA=[]:=YO _ _ hA
 have hF:∀ t∈fA,1≤t.id∧(1≤t.trace∧t.trace≤999)∧w.now+1≤t.at_∧t.at_≤2147483647:=fun t ht=>by
  obtain⟨a1,a2,a3,a4,a5⟩:=h.far _ fA hB t ht
  exact⟨a1,a2,by omega,a4⟩
 have hR:∀ t∈w.rest,1≤t.id∧(1≤t.trace∧t.trace≤999)∧w.now+1≤t.at_∧t.at_≤2147483647:=fun t ht=>by
  obtain⟨a1,a2,a3,a4,a5⟩:=h.rest t ht
  exact⟨a1,a2,by omega,a4⟩
 have pm:(timers (gT w)++fT w++(fJ w++w.rest)).Perm (timers w):=by
  unfold timers gT
  simp only[List.append_nil]
  have p1:=fN.append fF
  have p2:=p1.append_right w.rest
  refine List.Perm.trans ?_ p2
  have e1:fT w=(w.near[((w.now+1) % 8).toNat]?).getD []:=rfl
  have e2:fJ w=(w.far[((w.now+1) / 8 % 8).toNat]?).getD []:=rfl
  rw[←e1,←e2,eN,nA0]
  simp only[List.append_nil,List.append_assoc]
  exact List.Perm.refl _
 have ndA:=h.nd
 rw[←(pm.map (·.id)).nodup_iff] at ndA
 have lnA:=h.len
 rw[←pm.length_eq] at lnA
 have nd2:((timers (gT w)).map (·.id)).Nodup:=by
  rw[List.map_append,List.map_append] at ndA
  exact(List.nodup_append.1 (List.nodup_append.1 ndA).1).1
 have ln2:(timers (gT w)).length≤16:=by simp only[List.length_append] at lnA;omega
 have w2:WhI (gT w):=by
  refine⟨⟨by show 0≤w.now+1;omega,by show w.now+1≤_;omega⟩,by unfold gT;simpa using hnl,by unfold gT;simpa using hfl,fun t ht=>(by cases ht),fun i a ha t ht=>?_,fun i a ha t ht=>?_,nd2,ln2⟩
  ·unfold gT at ha
   simp only[List.getElem?_set] at ha
   split at ha
   ·split at ha
    ·cases ha;cases ht
    ·cases ha
   ·rw[YO i a ha] at ht;cases ht
  ·unfold gT at ha
   simp only[List.getElem?_set] at ha
   split at ha
   ·split at ha
    ·cases ha;cases ht
    ·cases ha
   ·obtain⟨a1,a2,a3,a4,a5⟩:=h.far i a ha t ht
    have hi:=(List.getElem?_eq_some_iff.1 ha).1
    exact⟨a1,a2,by show w.now+1 < t.at_;omega,a4,.inr (.inl ⟨rfl,by show 1≤t.at_ / 8 - (w.now+1) / 8;omega,by show t.at_ / 8 - (w.now+1) / 8≤7;omega,by omega⟩)⟩
 exact⟨w2,ndA,lnA,fun t ht=>by
  rcases List.mem_append.1 ht with q|q
  ·exact hF t (eF▸q)
  ·exact hR t q,pm,by rw[eN,nA0]⟩
theorem agS {w:bn} (h:WhI w) (hn:w.now < 2147483647) (hs:(w.now+1) % 8=0) (i:Nat):WhI (((fJ w++w.rest).take i).foldl (iZ (w.now+1)) (gT w,fT w)).1∧(((fJ w++w.rest).take i).foldl (iZ (w.now+1)) (gT w,fT w)).1.now=w.now+1∧(((fJ w++w.rest).take i).foldl (iZ (w.now+1)) (gT w,fT w)).2.length≤16:=by
 obtain⟨w2,nd,ln,hF,pm,-⟩:=MU h hn hs
 have sub:=(List.take_sublist i (fJ w++w.rest)).append_left (timers (gT w)++fT w)
 have ln2:=sub.length_le
 obtain⟨a1,a2,a3,-⟩:=Gl (now:=w.now+1) ((fJ w++w.rest).take i) (gT w,fT w) w2 rfl ((sub.map _).nodup nd) (Nat.le_trans ln2 ln) fun t ht=>hF t (List.mem_of_mem_take ht)
 have l3:=a3.length_eq
 rw[List.length_append] at l3
 dsimp only at l3
 exact⟨a1,a2,by have:(timers (gT w)++fT w++(fJ w++w.rest).take i).length≤16:=Nat.le_trans ln2 ln;omega⟩
theorem Vt {w:bn} (h:WhI w) (hn:w.now < 2147483647):WhI (gL w).1∧(gL w).1.now=w.now+1∧(timers (gL w).1++(gL w).2).Perm (timers w)∧∀ t∈(gL w).2,t.at_=w.now+1:=by
 have h0:=h.now
 have hnl:=h.nl
 have hfl:=h.fl
 have m8:=(⟨Int.emod_nonneg (w.now+1) (by decide),Int.emod_lt_of_pos (w.now+1) (by decide)⟩:0≤(w.now+1) % 8∧(w.now+1) % 8 < 8)
 have m88:=(⟨Int.emod_nonneg ((w.now+1) / 8) (by decide),Int.emod_lt_of_pos ((w.now+1) / 8) (by decide)⟩:0≤(w.now+1) / 8 % 8∧(w.now+1) / 8 % 8 < 8)
 have fN:=FZ (l:=w.near) (i:=((w.now+1) % 8).toNat) (by omega)
 have fF:=FZ (l:=w.far) (i:=((w.now+1) / 8 % 8).toNat) (by omega)
 obtain⟨nA,hA⟩:∃ a,w.near[((w.now+1) % 8).toNat]? =some a:=⟨w.near[((w.now+1) % 8).toNat]'(by omega),List.getElem?_eq_getElem _⟩
 obtain⟨fA,hB⟩:∃ a,w.far[((w.now+1) / 8 % 8).toNat]? =some a:=⟨w.far[((w.now+1) / 8 % 8).toNat]'(by omega),List.getElem?_eq_getElem _⟩
 have eN:fT w=nA:=by unfold fT;rw[hA];rfl
 have eF:fJ w=fA:=by unfold fJ;rw[hB];rfl
 unfold gL
 by_cases hs:(w.now+1) % 8≠0
 ·rw[if_pos hs]
  have pm:(timers (iW w)++fT w).Perm (timers w):=by
   have p1:=(List.perm_append_comm (l₁:=w.far.flatten++w.rest) (l₂:=fT w)).append_left (w.near.set ((w.now+1) % 8).toNat []).flatten
   have p2:=fN.append_right (w.far.flatten++w.rest)
   have p4:((w.near.set ((w.now+1) % 8).toNat []).flatten++(fT w++(w.far.flatten++w.rest))).Perm (w.near.flatten++(w.far.flatten++w.rest)):=by rw[←List.append_assoc];exact p2
   have p3:=p1.trans p4
   simpa[timers,iW,List.append_assoc] using p3
  have nd:((timers (iW w)).map (·.id)).Nodup:=by
   have:=h.nd;rw[←(pm.map (·.id)).nodup_iff,List.map_append] at this
   exact(List.nodup_append.1 this).1
  have ln:(timers (iW w)).length≤16:=by have:=pm.length_eq;rw[List.length_append] at this;have:=h.len;omega
  refine⟨⟨⟨by show 0≤w.now+1;omega,by show w.now+1≤_;omega⟩,by unfold iW;simpa using hnl,hfl,fun t ht=>?_,fun i a ha t ht=>?_,fun i a ha t ht=>?_,nd,ln⟩,rfl,pm,fun t ht=>?_⟩
  ·obtain⟨a1,a2,a3,a4,a5⟩:=h.rest t ht
   exact⟨a1,a2,by show w.now+1 < t.at_;omega,a4,.inr (.inr ⟨rfl,by show 8≤t.at_ / 8 - (w.now+1) / 8;omega⟩)⟩
  ·unfold iW at ha
   simp only[List.getElem?_set] at ha
   split at ha
   ·split at ha
    ·cases ha;cases ht
    ·cases ha
   ·obtain⟨a1,a2,a3,a4,a5⟩:=h.near i a ha t ht
    have hi:=(List.getElem?_eq_some_iff.1 ha).1
    exact⟨a1,a2,by show w.now+1 < t.at_;omega,a4,.inl ⟨rfl,by show t.at_ / 8=(w.now+1) / 8;omega,by omega⟩⟩
  ·obtain⟨a1,a2,a3,a4,a5⟩:=h.far i a ha t ht
   exact⟨a1,a2,by show w.now+1 < t.at_;omega,a4,.inr (.inl ⟨rfl,by show 1≤t.at_ / 8 - (w.now+1) / 8;omega,by show t.at_ / 8 - (w.now+1) / 8≤7;omega,by omega⟩)⟩
  ·rw[eN] at ht
   obtain⟨a1,a2,a3,a4,a5⟩:=h.near _ nA hA t ht
   omega
 ·rw[if_neg hs]
  have hs:(w.now+1) % 8=0:=by omega
  obtain⟨w2,nd,ln,hF2,pm,nz⟩:=MU h hn hs
  obtain⟨a1,a2,a3,a4⟩:=Gl (now:=w.now+1) (fJ w++w.rest) (gT w,fT w) w2 rfl nd ln hF2
  refine⟨a1,a2,a3.trans pm,fun t ht=>?_⟩
  rcases a4 t ht with q|q
  ·rw[nz] at q;cases q
  ·exact q
end Go.Proofs.YtcgjihfngdhjjaaGreat
