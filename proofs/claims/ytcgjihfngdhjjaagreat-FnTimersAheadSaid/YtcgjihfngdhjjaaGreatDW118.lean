import Derived.Test.YtcgjihfngdhjjaaGreatDW116
section
set_option linter.unusedSimpArgs false
set_option linter.unusedVariables false
namespace Go.Proofs.YtcgjihfngdhjjaaGreat
open Go Go.Ab
def tr3 (u:Trail):Int × Int × Int:=(u.stamp,u.id,u.first)
structure TI (x:Wld):Prop where
 a:∀ t∈timers x.w,∃ f,(t.id,t.trace,f)∈(allT x.st).map tr3∧t.at_=cK f x.c.wait
 b:∀ t∈timers x.w,∀ (k:Nat) (s:Task),x.tasks[k]? =some s→s.op=2→s.stamp≠t.id
 c:∀ t∈timers x.w,∀ d∈x.due,d.id≠t.id
 d:∀ q∈(allT x.st).map tr3,x.shut=true∨cK q.2.2 x.c.wait≤x.w.now∨∃ t∈timers x.w,t.id=q.1
theorem GD:∀ {l m:List Int},l.Nodup→(∀ a∈l,a∈m)→l.length≤m.length
 |[],m,_,_=>Nat.zero_le _
 |a::l,m,h,hm=>by
  have ha:=hm a (by simp)
  have hn:=List.nodup_cons.1 h
  have:=GD (l:=l) (m:=m.erase a) hn.2 fun b hb=>(List.mem_erase_of_ne (fun e:b=a=>hn.1 (e▸hb))).2 (hm b (List.mem_cons_of_mem _ hb))
  rw[List.length_erase_of_mem ha] at this
  have hp:=List.length_pos_of_mem ha
  simp only[List.length_cons];omega
section
variable{x y:Wld} {k:Nat} {t t':Task}
theorem TI.few (h:TI x) (hI:WI x):(timers x.w).length≤15:=by
 have h1:=GD (l:=(timers x.w).map (·.id)) (m:=(allT x.st).map (·.stamp)) (iw.1 hI.w).nd fun a ha=>by
  obtain⟨t,ht,e⟩:=List.mem_map.1 ha
  obtain⟨f,hf,-⟩:=h.a t ht
  obtain⟨u,hu,e2⟩:=List.mem_map.1 hf
  refine List.mem_map.2 ⟨u,hu,?_⟩
  rw[←e];exact congrArg Prod.fst e2
 rw[List.length_map,List.length_map] at h1
 exact Nat.le_trans h1 hI.few
theorem TI.same (h:TI x) (hw:timers y.w=timers x.w) (hn:y.w.now=x.w.now) (hs:y.shut=x.shut) (hc:y.c=x.c) (ha:(allT y.st).map tr3=(allT x.st).map tr3) (hb:∀ (k:Nat) (s:Task),y.tasks[k]? =some s→s.op=2→∃ (j:Nat) (r:Task),x.tasks[j]? =some r∧r.op=2∧r.stamp=s.stamp) (hd:∀ d∈y.due,d∈x.due):TI y:=by
 refine⟨fun t ht=>?_,fun t ht k s hk ho=>?_,fun t ht d hd'=>?_,fun q hq=>?_⟩
 ·rw[hw] at ht;rw[ha,hc];exact h.a t ht
 ·rw[hw] at ht
  obtain⟨j,r,hr,ho',e⟩:=hb k s hk ho
  rw[←e];exact h.b t ht j r hr ho'
 ·rw[hw] at ht;exact h.c t ht d (hd d hd')
 ·rw[ha] at hq;rw[hw,hn,hs,hc];exact h.d q hq
theorem TI.tm (h:TI x):TI (cB x):=h.same rfl rfl rfl rfl rfl (fun k s hk ho=>⟨k,s,hk,ho,rfl⟩) fun d hd=>hd
theorem WJ {l:List Task} (P:Task→Prop) (hP:P t'→∃ (j:Nat) (r:Task),l[j]? =some r∧r.op=2∧r.stamp=t'.stamp) (ho:t'.op=2→P t'):∀ (j:Nat) (s:Task),(l.set k t')[j]? =some s→s.op=2→∃ (i:Nat) (r:Task),l[i]? =some r∧r.op=2∧r.stamp=s.stamp:=fun j s hj hs=>by
 rw[List.getElem?_set] at hj
 split at hj
 ·split at hj
  ·cases hj;exact hP (ho hs)
  ·cases hj
 ·exact⟨j,s,hj,hs,rfl⟩
theorem sU {l:List Task} (h:t'.op≠2):∀ (j:Nat) (s:Task),(l.set k t')[j]? =some s→s.op=2→∃ (i:Nat) (r:Task),l[i]? =some r∧r.op=2∧r.stamp=s.stamp:=WJ (fun _=>False) (fun q=>q.elim) fun q=>h q
theorem Im {l:List Task} (ht:l[k]? =some t) (h1:t'.op=t.op) (h2:t'.stamp=t.stamp):∀ (j:Nat) (s:Task),(l.set k t')[j]? =some s→s.op=2→∃ (i:Nat) (r:Task),l[i]? =some r∧r.op=2∧r.stamp=s.stamp:=WJ (fun s=>s.op=2) (fun q=>⟨k,t,ht,by rw[←h1];exact q,h2.symm⟩) fun q=>q
theorem Ac {l:List Task}:∀ (j:Nat) (s:Task),l[j]? =some s→s.op=2→∃ (i:Nat) (r:Task),l[i]? =some r∧r.op=2∧r.stamp=s.stamp:=fun j s hj hs=>⟨j,s,hj,hs,rfl⟩
theorem xK {l:List aR} {tr v:Int}:(allT (fD l tr v)).map tr3=(allT l).map tr3:=by rw[wL]
theorem TI.offer (h:TI x) {s:Span}:TI (pF x k s):=by
 unfold pF
 split
 ·exact h.same rfl rfl rfl rfl rfl (sU (by show(1:Int)≠2;decide)) fun d hd=>hd
 ·exact h.same rfl rfl rfl rfl rfl Ac fun d hd=>hd
theorem TI.begin (h:TI x):TI (mE x k):=by
 unfold mE
 split
 ·exact h
 ·rename_i td rest hd
  refine⟨h.a,fun t ht j s hj ho=>?_,fun t ht d hd'=>h.c t ht d (by rw[hd];exact List.mem_cons_of_mem _ hd'),h.d⟩
  simp only[List.getElem?_set] at hj
  split at hj
  ·split at hj
   ·cases hj;exact h.c t ht td (by rw[hd];simp)
   ·cases hj
  ·exact h.b t ht j s hj ho
theorem TI.lX (h:TI x) {code stamp:Int}:TI (lT x k t code stamp):=h.same rfl rfl rfl rfl xK (sU (by decide)) fun d hd=>hd
theorem TI.hold (h:TI x) (hI:WI x) (ht:x.tasks[k]? =some t) (hop:t.op=1):TI (lu x t):=by
 obtain⟨hok,-,-,-⟩:=task1 hI ht hop
 obtain⟨htr,-,-,-,hsz⟩:=hok
 have hwi:=iw.1 hI.w
 have iD:=hwi.now
 have aj5:=hI.now
 have vT:=h.few hI
 obtain⟨y,hy⟩:=kW hI.n1 t.s.trace
 obtain⟨a1,a2,a3⟩:=hI.st.2.1 _ _ hy
 unfold lu
 cases hf:dP x.st t.s.trace with
 |some o=>
  obtain⟨e1,e2⟩:=kP hf
  obtain⟨y',j,hy',hj,hidx,hid⟩:=ze hf
  rw[hy] at hy';cases hy'
  have hadd:=Ux (s:=t.s) (st:=kI x t) (nw:=x.w.now) hidx hj
  simp only[e2,if_true,gV hy,hadd]
  have hsp:=oC hj
  refine h.same rfl rfl rfl rfl ?_ Ac fun d hd=>hd
  show(allT (x.st.set _ _)).map tr3=_
  rw[wS hy,u6 hy]
  conv=>rhs;rw[hsp]
  simp only[List.map_append,List.map_cons]
  rfl
 |none=>
  obtain⟨e1,e2⟩:=nG hf
  have hidx:=TU hf y hy
  have hst:kI x t=x.next:=by unfold kI;rw[e2,if_neg (by decide)]
  obtain⟨hpw,hperm⟩:=Uy (s:=t.s) (st:=x.next) (nw:=x.w.now) hidx a3
  have hc:=hI.conf.2.1
  have hadd:cK x.w.now x.c.wait=x.w.now+x.c.wait:=by unfold cK cap;omega
  have hnx:=hI.next
  have htm:∀ u∈timers x.w,u.id≠x.next:=fun u hu e=>by
   have:=(hI.tms u (List.mem_append_left _ hu)).1;omega
  have hput:gX x.w ⟨x.next,t.s.trace,cK x.w.now x.c.wait⟩=dV x.w ⟨x.next,t.s.trace,cK x.w.now x.c.wait⟩:=VJ hwi (by show x.w.now < cK _ _;omega) (by show cK _ _≤_;omega) (by show 1≤x.next;omega) htr htm vT
  have hlp:=BZ (t:=⟨x.next,t.s.trace,cK x.w.now x.c.wait⟩) hwi (by show x.w.now < cK _ _;omega)
  have hln:=wW (w:=x.w) (t:=⟨x.next,t.s.trace,cK x.w.now x.c.wait⟩)
  obtain⟨W,hW⟩:∃ W,W=dV x.w ⟨x.next,t.s.trace,cK x.w.now x.c.wait⟩:=⟨_,rfl⟩
  rw[←hW] at hput hlp hln
  obtain⟨L,hL⟩:∃ L,L=lH y.l t.s x.next x.w.now:=⟨_,rfl⟩
  rw[←hL] at hpw hperm
  have e2': ¬ fH x.st t.s.trace=true:=by rw[e2];decide
  simp only[if_neg e2',gV hy,hst,hput,←hL]
  have Db:(allT (x.st.set (stripe t.s.trace x.st.length).toNat {y with l:=L})).Perm (⟨t.s.trace,x.next,x.w.now,[t.s]⟩::allT x.st):=by
   rw[wS hy,u6 hy]
   refine(List.Perm.append_left _ (List.Perm.append_right _ hperm)).trans ?_
   simp only[List.cons_append]
   exact List.perm_middle
  have hall:∀ q,q∈(allT (x.st.set (stripe t.s.trace x.st.length).toNat {y with l:=L})).map tr3↔q=(x.next,t.s.trace,x.w.now)∨q∈(allT x.st).map tr3:=fun q=>by
   rw[(Db.map tr3).mem_iff,List.map_cons,List.mem_cons];rfl
  refine⟨fun u hu=>?_,fun u hu j s hj ho=>?_,fun u hu d hd=>?_,fun q hq=>?_⟩
  ·rcases List.mem_cons.1 (hlp.mem_iff.1 hu) with e|e
   ·rw[e];exact⟨x.w.now,(hall _).2 (.inl rfl),rfl⟩
   ·obtain⟨f,hf',ef⟩:=h.a u e
    exact⟨f,(hall _).2 (.inr hf'),ef⟩
  ·rcases List.mem_cons.1 (hlp.mem_iff.1 hu) with e|e
   ·rw[e];have:=(hI.tasks j s hj).2;show s.stamp≠x.next;omega
   ·exact h.b u e j s hj ho
  ·rcases List.mem_cons.1 (hlp.mem_iff.1 hu) with e|e
   ·rw[e];have:=(hI.tms d (List.mem_append_right _ hd)).1;show d.id≠x.next;omega
   ·exact h.c u e d hd
  ·show x.shut=true∨cK q.2.2 x.c.wait≤W.now∨_
   rw[hln]
   rcases(hall q).1 hq with e|e
   ·exact .inr (.inr ⟨_,hlp.mem_iff.2 List.mem_cons_self,by rw[e]⟩)
   ·exact(h.d q e).imp id fun r=>r.imp id fun⟨u,hu,eu⟩=>⟨u,hlp.mem_iff.2 (List.mem_cons_of_mem _ hu),eu⟩
end
end Go.Proofs.YtcgjihfngdhjjaaGreat
end
section
set_option linter.unusedSimpArgs false
set_option linter.unusedVariables false
namespace Go.Proofs.YtcgjihfngdhjjaaGreat
open Go Go.Ab
section
variable{x y:Wld} {k:Nat} {t t':Task}
theorem ahI {l:List Trail} (h:(l.map (·.stamp)).Nodup) {p q:Int × Int × Int} (hp:p∈l.map tr3) (hq:q∈l.map tr3) (e:p.1=q.1):p=q:=by
 obtain⟨u,hu,rfl⟩:=List.mem_map.1 hp
 obtain⟨v,hv,rfl⟩:=List.mem_map.1 hq
 obtain⟨i,hi⟩:=List.mem_iff_getElem?.1 hu
 obtain⟨j,hj⟩:=List.mem_iff_getElem?.1 hv
 obtain⟨hil,ei⟩:=List.getElem?_eq_some_iff.1 hi
 obtain⟨hjl,ej⟩:=List.getElem?_eq_some_iff.1 hj
 have e:u.stamp=v.stamp:=e
 have hn:=List.pairwise_iff_getElem.1 h
 rcases Nat.lt_trichotomy i j with q|q|q
 ·exact absurd (by rw[List.getElem_map,List.getElem_map,ei,ej];exact e) (hn i j (by simpa using hil) (by simpa using hjl) q)
 ·subst q;rw[←ei,←ej]
 ·exact absurd (by rw[List.getElem_map,List.getElem_map,ei,ej];exact e.symm) (hn j i (by simpa using hjl) (by simpa using hil) q)
theorem XQ (hI:WI x) {o:Trail} (ho:dP x.st o.id=some o):(∀ q∈(allT (fU x.st o.id)).map tr3,q∈(allT x.st).map tr3∧q.1≠o.stamp)∧∀ q∈(allT x.st).map tr3,q.1≠o.stamp→q∈(allT (fU x.st o.id)).map tr3:=by
 obtain⟨A,B,e1,e2⟩:=Gi ho
 have hn:=hI.st.2.2
 rw[e1,List.map_append,List.map_cons,List.nodup_append] at hn
 obtain⟨n1,n2,n3⟩:=hn
 have n2:=(List.nodup_cons.1 n2).1
 rw[e1,e2]
 constructor
 ·intro q hq
  obtain⟨u,hu,rfl⟩:=List.mem_map.1 hq
  rcases List.mem_append.1 hu with p|p
  ·exact⟨List.mem_map.2 ⟨u,List.mem_append_left _ p,rfl⟩,fun e=>n3 _ (List.mem_map.2 ⟨u,p,rfl⟩) _ List.mem_cons_self e⟩
  ·exact⟨List.mem_map.2 ⟨u,List.mem_append_right _ (List.mem_cons_of_mem _ p),rfl⟩,fun e=>n2 (List.mem_map.2 ⟨u,p,e⟩)⟩
 ·intro q hq hne
  obtain⟨u,hu,rfl⟩:=List.mem_map.1 hq
  rcases List.mem_append.1 hu with p|p
  ·exact List.mem_map.2 ⟨u,List.mem_append_left _ p,rfl⟩
  ·rcases List.mem_cons.1 p with p|p
   ·rw[p] at hne;exact absurd rfl hne
   ·exact List.mem_map.2 ⟨u,List.mem_append_right _ p,rfl⟩
theorem TI.drop (h:TI x) (hI:WI x):TI (jY x t k):=by
 unfold jY
 split
 ·rename_i hit
  obtain⟨o,ho⟩:∃ o,dP x.st t.trace=some o:=by have:=hit.1;unfold fH at this;exact Option.isSome_iff_exists.1 this
  have hoo:=(kP ho).1
  have hid:=(zw ho).2
  have ho':dP x.st o.id=some o:=by rw[hid];exact ho
  rw[hoo]
  obtain⟨d1,d2⟩:=XQ hI ho'
  have hwi:=iw.1 hI.w
  have htm:=Gw (id:=o.stamp) hwi
  have iD:(eP x.w o.stamp).now=x.w.now:=by rw[GN hwi]
  refine⟨fun u hu=>?_,fun u hu j s hj hs=>?_,fun u hu d hd=>?_,fun q hq=>?_⟩
  ·have hu:u∈timers (eP x.w o.stamp):=hu
   rw[htm] at hu
   obtain⟨g1,g2⟩:=rX.1 hu
   obtain⟨f,hf,ef⟩:=h.a u g1
   exact⟨f,d2 _ hf g2,ef⟩
  ·have hu:u∈timers (eP x.w o.stamp):=hu
   rw[htm] at hu
   exact h.b u (rX.1 hu).1 j s hj hs
  ·have hu:u∈timers (eP x.w o.stamp):=hu
   rw[htm] at hu
   exact h.c u (rX.1 hu).1 d hd
  ·obtain⟨g1,g2⟩:=d1 q hq
   show x.shut=true∨cK q.2.2 x.c.wait≤(eP x.w o.stamp).now∨∃ u∈timers (eP x.w o.stamp),u.id=q.1
   rw[iD,htm]
   exact(h.d q g1).imp id fun r=>r.imp id fun⟨u,hu,eu⟩=>⟨u,rX.2 ⟨hu,by rw[eu];exact g2⟩,eu⟩
 ·exact h
theorem TI.xW (h:TI x) (hI:WI x) (ht:x.tasks[k]? =some t) (hop:t.op=1) (hy:jl x k t=some y):TI y:=by
 have h2:t.op≠2:=by omega
 unfold jl at hy
 split at hy
 ·split at hy
  ·cases hy
  ·cases hy;exact h.same rfl rfl rfl rfl xK (sU h2) fun d hd=>hd
 split at hy
 ·unfold lookW at hy
  split at hy
  ·cases hy;exact h.lX
  split at hy
  ·split at hy
   ·split at hy
    ·cases hy
    ·cases hy
     exact TI.lX (x:={x with queue:=x.queue++[⟨(vOf x.cache t.s.trace).1.stamp,t.s⟩]}) (h.same rfl rfl rfl rfl rfl Ac fun d hd=>hd)
   ·cases hy;exact h.lX
  split at hy
  ·cases hy;exact h.same rfl rfl rfl rfl xK (sU h2) fun d hd=>hd
  ·cases hy;exact(h.hold hI ht hop).lX
 split at hy
 ·unfold pQ at hy
  split at hy
  ·cases hy;exact h.same rfl rfl rfl rfl rfl (sU h2) fun d hd=>hd
  ·split at hy
   ·cases hy
   ·cases hy;exact h.same rfl rfl rfl rfl xK (sU h2) fun d hd=>hd
 ·cases hy
  have hz:(jY x t k).tasks=x.tasks:=by unfold jY;split<;>rfl
  refine(h.drop (t:=t) (k:=k) hI).same rfl rfl rfl rfl xK (fun j s hj hs=>?_) fun d hd=>hd
  rw[hz]
  exact sU (t':={t with pc:=0,trace:=0,stamp:=0}) h2 j s hj hs
theorem TI.pW {l:List Task} (h:TI x) (ht:l[k]? =some t) (hl:x.tasks=l) {hand:List Itm}:TI (mQ x k t hand):=by
 subst hl
 refine h.same rfl rfl rfl rfl xK (fun j s hj hs=>?_) fun d hd=>hd
 unfold mQ at hj
 simp only at hj
 split at hj
 ·exact sU (t':=dX) (by decide) j s hj hs
 ·exact Im (t':={t with pc:=3,hand:=hand}) ht rfl rfl j s hj hs
theorem TI.say (h:TI x) (hI:WI x) (ht:x.tasks[k]? =some t) (hop:t.op=2):TI (kG x k t):=by
 unfold kG
 by_cases hit:zL x t
 ·rw[fK hit,if_pos rfl]
  obtain⟨o,ho⟩:∃ o,dP x.st t.trace=some o:=by have:=hit.1;unfold fH at this;exact Option.isSome_iff_exists.1 this
  have hoo:=(kP ho).1
  have hid:=(zw ho).2
  have ho':dP x.st o.id=some o:=by rw[hid];exact ho
  have hsm:o.stamp=t.stamp:=by rw[←hoo];exact hit.2
  rw[hoo]
  obtain⟨d1,d2⟩:=XQ hI ho'
  have hz:TI (oQ x o (qg x t)):=⟨fun u hu=>by
   obtain⟨f,hf,ef⟩:=h.a u hu
   exact⟨f,d2 _ hf (by show u.id≠o.stamp;rw[hsm];exact fun e=>h.b u hu k t ht hop e.symm),ef⟩,h.b,h.c,fun q hq=>h.d q (d1 q hq).1⟩
  refine TI.pW (l:=x.tasks) ?_ ht ?_
  ·exact hz.same rfl rfl rfl rfl rfl Ac fun d hd=>hd
  ·rfl
 ·rw[gM hit,if_neg (by decide)]
  refine TI.pW (l:=x.tasks) ?_ ht ?_
  ·exact h.same rfl rfl rfl rfl rfl Ac fun d hd=>hd
  ·rfl
theorem TI.xX (h:TI x) (hI:WI x) (ht:x.tasks[k]? =some t) (hop:t.op=2) (hy:jm x k t=some y):TI y:=by
 unfold jm at hy
 split at hy
 ·split at hy
  ·cases hy
  ·cases hy;exact h.same rfl rfl rfl rfl xK (Im ht rfl rfl) fun d hd=>hd
 split at hy
 ·split at hy
  ·cases hy
  ·cases hy;exact h.same rfl rfl rfl rfl rfl (Im ht rfl rfl) fun d hd=>hd
 split at hy
 ·cases hy;exact h.say hI ht hop
 ·unfold pR at hy
  split at hy
  ·cases hy
  ·split at hy
   ·cases hy
   ·rename_i a ys _ _
    cases hy
    refine h.same rfl rfl rfl rfl rfl (fun j s hj hs=>?_) fun d hd=>hd
    simp only at hj
    split at hj
    ·exact sU (t':=dX) (by decide) j s hj hs
    ·exact Im (t':={t with hand:=ys}) ht rfl rfl j s hj hs
theorem TI.tick (h:TI x) (hI:WI x) {n:Nat} (hn:x.w.now+n≤100000):TI (Ad x n):=by
 have hwi:=iw.1 hI.w
 obtain⟨a1,a2,a3,a4⟩:=zZ hwi n (by omega)
 have hsub:∀ u∈timers (dA x.w n).1,u∈timers x.w:=fun u hu=>a3.mem_iff.1 (List.mem_append_left _ hu)
 have hnd:=hwi.nd
 rw[←(a3.map (·.id)).nodup_iff,List.map_append,List.nodup_append] at hnd
 refine TI.tm (x:={x with w:=(dA x.w n).1,due:=x.due++(dA x.w n).2}) ⟨fun u hu=>h.a u (hsub u hu),fun u hu=>h.b u (hsub u hu),fun u hu d hd=>?_,fun q hq=>?_⟩
 ·rcases List.mem_append.1 hd with p|p
  ·exact h.c u (hsub u hu) d p
  ·exact fun e=>hnd.2.2 _ (List.mem_map.2 ⟨u,hu,rfl⟩) _ (List.mem_map.2 ⟨d,p,rfl⟩) e.symm
 ·show x.shut=true∨cK q.2.2 x.c.wait≤(dA x.w n).1.now∨∃ u∈timers (dA x.w n).1,u.id=q.1
  rcases h.d q hq with p|p|⟨u,hu,eu⟩
  ·exact .inl p
  ·exact .inr (.inl (by omega))
  ·rcases List.mem_append.1 (a3.mem_iff.2 hu) with p|p
   ·exact .inr (.inr ⟨u,p,eu⟩)
   ·obtain⟨f,hf,ef⟩:=h.a u hu
    have:=ahI hI.st.2.2 hf hq eu
    rw[←this]
    have:=(a4 u p).2
    exact .inr (.inl (by show cK f x.c.wait≤_;omega))
theorem TI.MV (h:TI x) (hy:pO x=some y):TI y:=by
 unfold pO at hy
 split at hy
 ·cases hy
 ·cases hy
  exact TI.tm (h.same (y:={x with out:=_,queue:=_}) rfl rfl rfl rfl rfl Ac fun d hd=>hd)
theorem TI.CY (h:TI x) (hy:nO x=some y):TI y:=by
 unfold nO at hy
 split at hy
 ·cases hy
 ·cases hy
  refine TI.tm ⟨fun u hu=>?_,fun u hu=>?_,fun u hu=>?_,fun q hq=>.inl rfl⟩<;>(have hu:u∈timers (nC x.w.now):=hu;rw[BD] at hu;cases hu)
end
end Go.Proofs.YtcgjihfngdhjjaaGreat
end
