import Derived.Test.YtcgjihfngdhjjaaGreatDW65
section
set_option linter.unusedSimpArgs false
set_option linter.unusedVariables false
namespace Go.Proofs.YtcgjihfngdhjjaaGreat
open Go Go.Ab
theorem Te {α:Type} {f:α→Int} {l:List α}:Mh f l↔(l.map f).Nodup:=by
 unfold Mh List.Nodup
 rw[List.pairwise_iff_getElem]
 constructor
 ·intro h i j hi hj hij
  rw[List.getElem_map,List.getElem_map]
  rw[List.length_map] at hi hj
  exact h j _ (List.getElem?_eq_getElem hj) i _ hij (List.getElem?_eq_getElem hi)
 ·intro h i x hx j y hij hy
  obtain⟨hi,rfl⟩:=List.getElem?_eq_some_iff.1 hx
  obtain⟨hj,rfl⟩:=List.getElem?_eq_some_iff.1 hy
  have:=h j i (by simpa using hj) (by simpa using hi) hij
  simpa using this
structure WhI (w:bn):Prop where
 now:0≤w.now∧w.now≤2147483647
 nl:w.near.length=8
 fl:w.far.length=8
 rest:∀ t∈w.rest,jE w.now 2 0 t
 near:∀ (i:Nat) (a:List Ab.Timer),w.near[i]? =some a→∀ t∈a,jE w.now 0 i t
 far:∀ (i:Nat) (a:List Ab.Timer),w.far[i]? =some a→∀ t∈a,jE w.now 1 i t
 nd:((timers w).map (·.id)).Nodup
 len:(timers w).length≤16
theorem iw {w:bn}:kK w↔WhI w:=by
 constructor
 ·rintro⟨h1,h2,h3,h4,h5,h6,h7⟩
  refine⟨h1,by omega,by omega,h4,fun i a ha=>?_,fun i b hb=>?_,Te.1 h6,by omega⟩
  ·have hi:=(List.getElem?_eq_some_iff.1 ha).1
   exact(h5 i a w.far[i] ha (List.getElem?_eq_getElem (by omega))).1
  ·have hi:=(List.getElem?_eq_some_iff.1 hb).1
   exact(h5 i w.near[i] b (List.getElem?_eq_getElem (by omega)) hb).2
 ·intro h
  exact⟨h.now,by have:=h.nl;omega,by have:=h.fl;omega,h.rest,fun i a b ha hb=>⟨h.near i a ha,h.far i b hb⟩,Te.2 h.nd,by have:=h.len;omega⟩
theorem afE {w:bn} {t:Ab.Timer}:t∈timers w↔(∃ (i:Nat) (a:List Ab.Timer),w.near[i]? =some a∧t∈a)∨(∃ (i:Nat) (a:List Ab.Timer),w.far[i]? =some a∧t∈a)∨t∈w.rest:=by
 unfold timers
 simp only[List.mem_append,List.mem_flatten,or_assoc]
 constructor
 ·rintro(⟨a,ha,ht⟩|⟨a,ha,ht⟩|ht)
  ·obtain⟨i,hi⟩:=List.mem_iff_getElem?.1 ha
   exact .inl ⟨i,a,hi,ht⟩
  ·obtain⟨i,hi⟩:=List.mem_iff_getElem?.1 ha
   exact .inr (.inl ⟨i,a,hi,ht⟩)
  ·exact .inr (.inr ht)
 ·rintro(⟨i,a,ha,ht⟩|⟨i,a,ha,ht⟩|ht)
  ·exact .inl ⟨a,List.mem_of_getElem? ha,ht⟩
  ·exact .inr (.inl ⟨a,List.mem_of_getElem? ha,ht⟩)
  ·exact .inr (.inr ht)
theorem WhI.ahead {w:bn} (h:WhI w):∀ t∈timers w,1≤t.id∧(1≤t.trace∧t.trace≤999)∧w.now < t.at_∧t.at_≤2147483647:=fun t ht=>by
 have:∀ k s,jE w.now k s t→1≤t.id∧(1≤t.trace∧t.trace≤999)∧w.now < t.at_∧t.at_≤2147483647:=fun k s h=>⟨h.1,h.2.1,h.2.2.1,h.2.2.2.1⟩
 rcases afE.1 ht with⟨i,a,ha,hm⟩|⟨i,a,ha,hm⟩|hm
 ·exact this _ _ (h.near i a ha t hm)
 ·exact this _ _ (h.far i a ha t hm)
 ·exact this _ _ (h.rest t hm)
theorem Td {α:Type} {l:List (List α)} {i:Nat} {a:List α} {t:α} (h:l[i]? =some a):(upd l i (· ++[t])).flatten.Perm (t::l.flatten):=by
 rw[gV h,BI h]
 conv=>rhs;rw[oC h]
 simp only[List.flatten_append,List.flatten_cons,List.append_assoc,List.singleton_append]
 refine(List.perm_middle (l₁:=(l.take i).flatten) |>.symm.trans ?_).symm
 refine List.Perm.append_left _ ?_
 exact List.perm_middle.symm
theorem wW {w:bn} {t:Ab.Timer}:(dV w t).now=w.now:=by
 unfold dV;split
 ·rfl
 ·split<;>rfl
theorem BZ {w:bn} {t:Ab.Timer} (h:WhI w) (h0:w.now < t.at_):(timers (dV w t)).Perm (t::timers w):=by
 have hn:=h.now
 have hnl:=h.nl
 have hfl:=h.fl
 unfold dV
 split
 ·obtain⟨a,ha⟩:∃ a,w.near[(t.at_ % 8).toNat]? =some a:=⟨w.near[(t.at_ % 8).toNat]'(by omega),List.getElem?_eq_getElem _⟩
  unfold timers
  simp only
  have:=(Td (t:=t) ha).append_right w.far.flatten |>.append_right w.rest
  simpa using this
 ·split
  ·obtain⟨a,ha⟩:∃ a,w.far[(t.at_ / 8 % 8).toNat]? =some a:=⟨w.far[(t.at_ / 8 % 8).toNat]'(by omega),List.getElem?_eq_getElem _⟩
   unfold timers
   simp only
   have:=((Td (t:=t) ha).append_left w.near.flatten).append_right w.rest
   refine this.trans ?_
   simp only[List.append_assoc,List.cons_append]
   exact List.perm_middle
  ·unfold timers
   simp only
   exact(List.perm_append_comm (l₁:=(w.near.flatten++w.far.flatten)) (l₂:=w.rest++[t])).trans (by
    rw[List.append_assoc,List.singleton_append]
    exact List.perm_middle.trans (List.Perm.cons _ List.perm_append_comm))
theorem ME {w:bn} {t:Ab.Timer} (h:WhI w) (h0:w.now < t.at_) (h1:t.at_≤2147483647) (hid:1≤t.id) (htr:1≤t.trace∧t.trace≤999) (hnew:∀ u∈timers w,u.id≠t.id) (hl:(timers w).length≤15):WhI (dV w t):=by
 have hp:=BZ h h0
 have hn:=h.now
 have hnl:=h.nl
 have hfl:=h.fl
 have hnd:((timers (dV w t)).map (·.id)).Nodup:=by
  rw[(hp.map _).nodup_iff,List.map_cons,List.nodup_cons]
  refine⟨fun hm=>?_,h.nd⟩
  obtain⟨u,hu,e⟩:=List.mem_map.1 hm
  exact hnew u hu e
 have hlen:(timers (dV w t)).length≤16:=by rw[hp.length_eq,List.length_cons];omega
 have base:1≤t.id∧(1≤t.trace∧t.trace≤999)∧w.now < t.at_∧t.at_≤2147483647:=⟨hid,htr,h0,h1⟩
 refine⟨by rw[wW];exact hn,?_,?_,?_,?_,?_,hnd,hlen⟩
 ·unfold dV;split
  ·simp only[mh];exact hnl
  ·split<;>exact hnl
 ·unfold dV;split
  ·exact hfl
  ·split
   ·simp only[mh];exact hfl
   ·exact hfl
 ·rw[wW]
  unfold dV;split
  ·exact h.rest
  ·split
   ·exact h.rest
   ·intro u hu
    rcases List.mem_append.1 hu with q|q
    ·exact h.rest u q
    ·rw[List.mem_singleton.1 q]
     exact⟨hid,htr,h0,h1,.inr (.inr ⟨rfl,by omega⟩)⟩
 ·rw[wW]
  unfold dV;split
  ·rename_i e
   intro i a ha u hu
   obtain⟨b,hb⟩:∃ b,w.near[(t.at_ % 8).toNat]? =some b:=⟨w.near[(t.at_ % 8).toNat]'(by omega),List.getElem?_eq_getElem _⟩
   simp only[gV hb] at ha
   rw[List.getElem?_set] at ha
   split at ha
   ·rename_i ei
    split at ha
    ·cases ha
     rcases List.mem_append.1 hu with q|q
     ·rw[←ei];exact h.near _ b hb u q
     ·rw[List.mem_singleton.1 q]
      exact⟨hid,htr,h0,h1,.inl ⟨rfl,e,by omega⟩⟩
    ·cases ha
   ·exact h.near i a ha u hu
  ·split<;>exact h.near
 ·rw[wW]
  unfold dV;split
  ·exact h.far
  ·rename_i e0
   split
   ·rename_i e
    intro i a ha u hu
    obtain⟨b,hb⟩:∃ b,w.far[(t.at_ / 8 % 8).toNat]? =some b:=⟨w.far[(t.at_ / 8 % 8).toNat]'(by omega),List.getElem?_eq_getElem _⟩
    simp only[gV hb] at ha
    rw[List.getElem?_set] at ha
    split at ha
    ·rename_i ei
     split at ha
     ·cases ha
      rcases List.mem_append.1 hu with q|q
      ·rw[←ei];exact h.far _ b hb u q
      ·rw[List.mem_singleton.1 q]
       exact⟨hid,htr,h0,h1,.inr (.inl ⟨rfl,by omega,by omega,by omega⟩)⟩
     ·cases ha
    ·exact h.far i a ha u hu
   ·exact h.far
theorem VJ {w:bn} {t:Ab.Timer} (h:WhI w) (h0:w.now < t.at_) (h1:t.at_≤2147483647) (hid:1≤t.id) (htr:1≤t.trace∧t.trace≤999) (hnew:∀ u∈timers w,u.id≠t.id) (hl:(timers w).length≤15):gX w t=dV w t:=by
 unfold gX Ap
 rw[fK ⟨⟨iw.2 h,h0,h1⟩,iw.2 (ME h h0 h1 hid htr hnew hl)⟩,if_pos rfl]
theorem GN {w:bn} {id:Int} (h:WhI w):eP w id=⟨w.now,w.near.map (without id),w.far.map (without id),without id w.rest⟩:=by
 unfold eP;rw[fK (iw.2 h),if_pos rfl]
theorem SK {id:Int} {a b:List Ab.Timer}:without id (a++b)=without id a++without id b:=List.filter_append ..
theorem R4 {id:Int}:∀ l:List (List Ab.Timer),(l.map (without id)).flatten=without id l.flatten
 |[]=>rfl
 |a::l=>by simp only[List.map_cons,List.flatten_cons,R4 l,SK]
theorem Gw {w:bn} {id:Int} (h:WhI w):timers (eP w id)=without id (timers w):=by
 rw[GN h]
 unfold timers
 simp only[R4,SK]
theorem rX {id:Int} {l:List Ab.Timer} {t:Ab.Timer}:t∈without id l↔t∈l∧t.id≠id:=by
 unfold without
 rw[List.mem_filter]
 simp[nQ]
theorem agC {w:bn} {id:Int} (h:WhI w):WhI (eP w id):=by
 have ht:=Gw (id:=id) h
 have hsub:(without id (timers w)).Sublist (timers w):=List.filter_sublist
 have hnd:((timers (eP w id)).map (·.id)).Nodup:=by rw[ht];exact h.nd.sublist (hsub.map _)
 have hlen:(timers (eP w id)).length≤16:=by rw[ht];exact Nat.le_trans hsub.length_le h.len
 rw[GN h] at hnd hlen ⊢
 refine⟨h.now,by simpa using h.nl,by simpa using h.fl,fun t q=>h.rest t (rX.1 q).1,fun i a ha t q=>?_,fun i a ha t q=>?_,hnd,hlen⟩
 ·simp only[List.getElem?_map] at ha
  cases hb:w.near[i]? with
  |none=>rw[hb] at ha;cases ha
  |some b=>
   rw[hb] at ha
   simp only[Option.map_some,Option.some.injEq] at ha
   subst ha
   exact h.near i b hb t (rX.1 q).1
 ·simp only[List.getElem?_map] at ha
  cases hb:w.far[i]? with
  |none=>rw[hb] at ha;cases ha
  |some b=>
   rw[hb] at ha
   simp only[Option.map_some,Option.some.injEq] at ha
   subst ha
   exact h.far i b hb t (rX.1 q).1
end Go.Proofs.YtcgjihfngdhjjaaGreat
end
section
set_option linter.unusedSimpArgs false
set_option linter.unusedVariables false
namespace Go.Proofs.YtcgjihfngdhjjaaGreat
open Go Go.Ab
theorem wU {α:Type} {f:α→Int}:∀ {l:List α},(∀ x∈l,0≤f x)→0≤bD f l
 |[],_=>by simp[bD]
 |x::l,h=>by
  have h1:=h x (by simp)
  have h2:=wU (f:=f) (l:=l) fun y hy=>h y (by simp[hy])
  simp only[bD];omega
theorem KR (s:Span):12≤dR s:=by
 unfold dR
 have:=wU (f:=oI) (l:=s.attrs) fun a _=>(zh a).1
 omega
theorem Fh (t:Trail):0≤dW t:=wU fun s _=>(wI s).1
theorem Mg (l:List aR):0≤held l:=wU fun t _=>Fh t
theorem QW {t:Trail} (h:zA t):12≤dW t:=by
 have hp:=h.2.2.2.2
 unfold dW
 cases hs:t.spans with
 |nil=>rw[hs] at hp;simp at hp
 |cons s l=>
  have:=KR s
  have h2:=wU (f:=dR) (l:=l) fun s _=>(wI s).1
  simp only[bD];omega
theorem BR {l:List aR} (h:mg l) {t:Trail} (ht:t∈allT l):zA t:=by
 obtain⟨i,x,hx,hm⟩:=zk.1 ht
 exact((h.2.1 i x hx).2.1 t hm).1
theorem GX {α:Type} {f:α→Int} {m:Int} (hm:0≤m):∀ {l:List α},(∀ x∈l,m≤f x)→m * l.length≤bD f l
 |[],_=>by simp[bD]
 |x::l,h=>by
  have h1:=h x (by simp)
  have h2:=GX hm (f:=f) (l:=l) fun y hy=>h y (by simp[hy])
  simp only[bD,List.length_cons]
  rw[show((l.length+1:Nat):Int)=(l.length:Int)+1 by omega,Int.mul_add,Int.mul_one]
  omega
theorem WI.few {x:Wld} (h:WI x):(allT x.st).length≤15:=by
 have:=GX (f:=dW) (m:=12) (by decide) (l:=allT x.st) fun t ht=>QW (BR h.st ht)
 have h1:=h.used
 have h2:=h.budget
 have h3:=h.conf.2.2.1
 unfold held at h1
 omega
theorem aiL {l:List bO} {v:bO} {m:Int} (h:cOk l m) (hv:vOk v):cOk (rem l v m).1 m:=by
 by_cases hm:m < 1
 ·unfold rem;rw[if_pos hm];exact h
 ·rw[UN hm]
  refine(aiM h (List.drop_sublist _ _) ?_).2 ?_
  ·simp only[List.length_append,List.length_drop,List.length_singleton]
   omega
  ·rw[zI]
   refine⟨fun x hx=>by rw[List.mem_singleton.1 hx];exact hv,List.pairwise_singleton _ _,by simp only[List.length_singleton];omega⟩
theorem ain {l:List bO} {v u:bO} {m:Int} (h:u∈(rem l v m).1):u∈l∨u=v:=by
 by_cases hm:m < 1
 ·unfold rem at h;rw[if_pos hm] at h;exact .inl h
 ·rw[UN hm] at h
  rcases List.mem_append.1 h with q|q
  ·exact .inl (UL (List.drop_subset _ _ q)).1
  ·exact .inr (List.mem_singleton.1 q)
section
variable{x:Wld} {k:Nat} {t t':Task}
theorem WI.more (h:WI x) {d:aW} (hd:jL d) (h1:d.inv < x.time) (h2:d.lin < x.time) (h3:d.res < x.time):WI {x with aF:=x.aF++[d]}:=by
 refine⟨h.conf,h.time,h.next,h.st,h.stl,h.b,h.bc,h.cache,h.used,h.budget,h.w,h.now,h.shut,h.ql,h.queue,h.out,fun e he=>?_,h.tl,h.iX,h.cst,h.tms,fun j u hu=>?_,h.dB⟩
 ·rcases List.mem_append.1 he with q|q
  ·exact h.aF e q
  ·rw[List.mem_singleton.1 q];exact⟨hd,h1,h2,h3⟩
 ·obtain⟨⟨a1,a2⟩,a3⟩:=h.tasks j u hu
  refine⟨⟨a1,fun hop=>?_⟩,a3⟩
  have hde:=a2 hop
  unfold mO at hde ⊢
  cases hg:x.aF[u.h.toNat]? with
  |none=>rw[hg] at hde;exact hde.elim
  |some d=>rw[hg] at hde;rw[Hg hg];exact hde
theorem WI.que (h:WI x) {q:List Itm} (hl:(q.length:Int)≤x.c.queue) (hq:∀ y∈q,kZ y):WI {x with queue:=q}:=
 ⟨h.conf,h.time,h.next,h.st,h.stl,h.b,h.bc,h.cache,h.used,h.budget,h.w,h.now,h.shut,hl,hq,h.out,h.aF,h.tl,h.iX,h.cst,h.tms,h.tasks,h.dB⟩
theorem WI.bkt (h:WI x) {b:Bucket} (hb:iT b) (hc:b.rate=x.c.rate∧b.aZ=x.c.aZ∧b.at_≤x.w.now):WI {x with b:=b}:=
 ⟨h.conf,h.time,h.next,h.st,h.stl,hb,hc,h.cache,h.used,h.budget,h.w,h.now,h.shut,h.ql,h.queue,h.out,h.aF,h.tl,h.iX,h.cst,h.tms,h.tasks,h.dB⟩
theorem WI.cancel (h:WI x) {id:Int} (hno:∀ u∈allT x.st,u.stamp≠id):WI {x with w:=eP x.w id}:=by
 have hw:=iw.1 h.w
 have hc:=agC (id:=id) hw
 have ht:=Gw (id:=id) hw
 have iD:(eP x.w id).now=x.w.now:=by rw[GN hw]
 refine⟨h.conf,h.time,h.next,h.st,h.stl,h.b,by show _∧_∧x.b.at_≤(eP x.w id).now;rw[iD];exact h.bc,h.cache,h.used,h.budget,iw.2 hc,by show(eP x.w id).now≤_;rw[iD];exact h.now,fun hs=>?_,h.ql,h.queue,h.out,h.aF,h.tl,fun u hu=>?_,h.cst,fun u hu=>?_,h.tasks,h.dB⟩
 ·show timers (eP x.w id)=[]
  rw[ht,h.shut hs];rfl
 ·obtain⟨h1,h2⟩:=h.iX u hu
  refine⟨h1,h2.imp (fun⟨z,hz,e1,e2⟩=>⟨z,?_,e1,e2⟩) fun q=>q⟩
  rcases List.mem_append.1 hz with q|q
  ·refine List.mem_append_left _ ?_
   show z∈timers (eP x.w id)
   rw[ht]
   exact rX.2 ⟨q,by rw[e1];exact hno u hu⟩
  ·exact List.mem_append_right _ q
 ·rcases List.mem_append.1 hu with q|q
  ·have q:u∈timers (eP x.w id):=q
   rw[ht] at q
   exact h.tms u (List.mem_append_left _ (rX.1 q).1)
  ·exact h.tms u (List.mem_append_right _ q)
theorem WI.forget (h:WI x) {o:Trail} {keep:Bool} (ho:dP x.st o.id=some o):WI (oQ x o keep)∧(∀ u∈allT (fU x.st o.id),u∈allT x.st∧u.stamp≠o.stamp∧u.id≠o.id):=by
 obtain⟨A,B,e1,e2⟩:=Gi ho
 have hin:=(zw ho).1
 have hok:=BR h.st hin
 have hhd:=agu ho
 have hsub:∀ u∈allT (fU x.st o.id),u∈allT x.st∧u.stamp≠o.stamp∧u.id≠o.id:=fun u hu=>by
  rw[e2] at hu
  have hnd:=h.st.2.2
  rw[e1] at hnd
  have hu':u∈allT x.st:=by
   rw[e1]
   rcases List.mem_append.1 hu with q|q
   ·exact List.mem_append_left _ q
   ·exact List.mem_append_right _ (List.mem_cons_of_mem _ q)
  have hst:u.stamp≠o.stamp:=fun e=>by
   rw[List.map_append,List.map_cons] at hnd
   have p:=(List.perm_middle (l₁:=A.map (·.stamp)) (l₂:=B.map (·.stamp)) (a:=o.stamp)).nodup_iff.1 hnd
   refine(List.nodup_cons.1 p).1 ?_
   rw[←e,←List.map_append]
   exact List.mem_map_of_mem hu
  refine⟨hu',hst,fun e=>hst ?_⟩
  have:=GK h.st hu'
  rw[e,ho] at this
  cases this;rfl
 have h1:=h.used
 have h2:=h.budget
 have h3:=h.conf.2.2.1
 have hb:=Fh o
 have hd:=Mg (fU x.st o.id)
 have hw:wr (x.used - dW o)=x.used - dW o:=xE (by omega) (by omega)
 have Ny:=(h.iX o hin).1
 refine⟨?_,hsub⟩
 unfold oQ
 refine⟨h.conf,h.time,h.next,ade h.st ho,by show((fU x.st o.id).length:Int)=_;rw[zx];exact h.stl,h.b,h.bc,aiL h.cache ⟨hok.2.1,hok.2.2.1⟩,by show wr (x.used - dW o)=held (fU x.st o.id);rw[hw];omega,by show wr (x.used - dW o)≤x.c.budget;rw[hw];omega,h.w,h.now,h.shut,h.ql,h.queue,h.out,h.aF,h.tl,fun u hu=>h.iX u (hsub u hu).1,fun v hv=>?_,h.tms,h.tasks,?_⟩
 ·rcases ain hv with q|q
  ·exact h.cst v q
  ·rw[q];exact Ny
 ·obtain⟨l1,l2,l3⟩:=h.dB
  refine⟨fun i s hs=>?_,l2,l3⟩
  obtain⟨y,hy,g1,-⟩:=Vh ho hs
  rw[g1]
  show _∧∀ (k:Nat) (t:Task),x.tasks[k]? =some t→(bJ t (fU x.st o.id).length=(i:Int)↔y.held=(k:Int))
  rw[zx]
  exact l1 i y hy
theorem WI.fin (h:WI x) (hs:x.time < 4611686018427387904) {st':List aR} {r':Int} {d d':aW} (ht:x.tasks[k]? =some t) (hst:mg st') (ha:allT st'=allT x.st) (hl:st'.length=x.st.length)
  (hg:x.aF[t.h.toNat]? =some d) (hdk:d.task=(k:Int)) (hd':jL d'∧d'.inv≤x.time∧d'.lin≤x.time∧d'.res≤x.time)
  (h1:vv t' k) (h2:t'.op≠0→t'.h=t.h∧nk k t' d') (h3:t'.stamp < x.next) (hj:∀ u∈allT x.st,isJ u.id u.stamp t→isJ u.id u.stamp t')
  (hlk:nE {x with st:=st',bg:=r',tasks:=x.tasks.set k t'}):WI {x with st:=st',bg:=r',aF:=x.aF.set t.h.toNat d',tasks:=x.tasks.set k t',time:=wr (x.time+1)}:=by
 rw[wT h hs]
 have hhe:held st'=held x.st:=by unfold held;rw[ha]
 have hgl:=(List.getElem?_eq_some_iff.1 hg).1
 refine⟨h.conf,by show 0≤x.time+1;have:=h.time;omega,h.next,hst,by show(st'.length:Int)=_;rw[hl];exact h.stl,h.b,h.bc,h.cache,by show x.used=held st';rw[hhe];exact h.used,h.budget,h.w,h.now,h.shut,h.ql,h.queue,h.out,fun e he=>?_,by show(x.tasks.set k t').length=5;rw[List.length_set];exact h.tl,fun u hu=>?_,h.cst,h.tms,?_,hlk⟩
 ·rcases List.mem_or_eq_of_mem_set he with q|q
  ·exact LP h.aF e q
  ·rw[q]
   show jL d'∧d'.inv < x.time+1∧d'.lin < x.time+1∧d'.res < x.time+1
   exact⟨hd'.1,by omega,by omega,by omega⟩
 ·have hu:u∈allT st':=hu
  rw[ha] at hu
  obtain⟨g1,g2⟩:=h.iX u hu
  exact⟨g1,g2.imp id fun q=>Mi ht (hj u hu) q⟩
 ·refine Le (x:=x) (x':={x with st:=st',bg:=r',aF:=x.aF.set t.h.toNat d',tasks:=x.tasks.set k t',time:=x.time+1}) h.tasks ht rfl (Int.le_refl _) (fun i e he hne=>?_) ⟨⟨h1,fun hop=>?_⟩,h3⟩
  ·show(x.aF.set t.h.toNat d')[i]? =some e
   rw[List.getElem?_set_ne (fun q=>?_)]
   ·exact he
   ·rw[←q,hg] at he;cases he;exact hne hdk
  ·obtain⟨e1,e2⟩:=h2 hop
   unfold mO
   show match(x.aF.set t.h.toNat d')[t'.h.toNat]? with|none=>False|some d=>nk k t' d
   rw[e1,List.getElem?_set_self hgl]
   exact e2
theorem MZ {k:Nat} (hk:k < 5):vv dX k:=⟨by decide,⟨by decide,by decide⟩,⟨by omega,by omega⟩,.inl rfl⟩
theorem WI.own (h:WI x) (ht:x.tasks[k]? =some t) (h0:t.op≠0):∃ d,x.aF[t.h.toNat]? =some d∧nk k t d∧d∈x.aF:=by
 have hde:=(h.tasks k t ht).1.2 h0
 unfold mO at hde
 cases hg:x.aF[t.h.toNat]? with
 |none=>rw[hg] at hde;exact hde.elim
 |some d=>rw[hg] at hde;exact⟨d,rfl,hde,List.mem_of_getElem? hg⟩
theorem WI.ends (h:WI x) (hs:x.time < 4611686018427387904) (ht:x.tasks[k]? =some t) (hop:t.op=1) (hpc:t.pc=1) {code stamp:Int} (hc:1≤code∧code≤5):WI (cB (lT x k t code stamp)):=by
 obtain⟨d,hg,hf,hm⟩:=h.own ht (by omega)
 obtain⟨f1,f2,f3,f4⟩:=hf
 obtain⟨g1,g2,g3,g4⟩:=h.aF d hm
 have hop1:d.op=1∧d.s=t.s:=by
  rcases f4 with q|q
  ·exact q.2
  ·omega
 have hlin:d.lin= -1:=by
  by_cases q:d.lin= -1
  ·exact q
  ·exact absurd (f3.1 q) (by omega)
 have h0:=h.time
 have hw:=h.w.1.1
 have hk:=(List.getElem?_eq_some_iff.1 ht).1
 have h5:=h.tl
 have hn:=h.n1
 have e:cB (lT x k t code stamp)={x with st:=fD x.st t.s.trace (-1),bg:=x.bg,aF:=x.aF.set t.h.toNat {d with code:=code,stamp:=stamp,lin:=x.time,res:=x.time,now:=x.w.now},tasks:=x.tasks.set k dX,time:=wr (x.time+1)}:=by
  unfold cB lT
  simp only[gV hg]
 rw[e]
 obtain⟨d1,d2,d3,d4,d5,d6,d7,d8,d9⟩:=g1
 refine h.fin hs ht (Bc h.st ⟨by omega,by omega⟩) wL qE hg f1 ⟨⟨d1,d2,d3,d4,d5,hw,.inl ⟨hop1.1,by show x.time≠-1;omega,hc⟩,.inr (by show d.inv≤x.time;omega),.inr ⟨by show x.time≠-1;omega,Int.le_refl _⟩⟩,by show d.inv≤x.time;omega,Int.le_refl _,Int.le_refl _⟩ (MZ (by omega)) (fun q=>absurd rfl q) (by show(0:Int) < x.next;have:=h.next;omega) (fun u _ q=>by have:=q.1;omega) ?_
 exact Gh h ht rfl qE (fun i s' hs'=>BL h hs') (Lr hn hop hpc) GI (by rw[if_neg (by omega)]) (by simp[dX])
end
end Go.Proofs.YtcgjihfngdhjjaaGreat
end
