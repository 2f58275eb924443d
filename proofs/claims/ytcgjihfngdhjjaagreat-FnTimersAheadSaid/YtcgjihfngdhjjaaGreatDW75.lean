import Derived.Test.YtcgjihfngdhjjaaGreatDW67
section
set_option linter.unusedSimpArgs false
set_option linter.unusedVariables false
namespace Go.Proofs.YtcgjihfngdhjjaaGreat
open Go Go.Ab
theorem agP {xs:List bO} {id:Int} (h:(vOf xs id).2=true):(vOf xs id).1∈xs∧(vOf xs id).1.trace=id:=by
 unfold vOf at h ⊢
 cases hf:xs.find? (isT id) with
 |none=>rw[hf] at h;cases h
 |some v=>
  have h1:=List.mem_of_find?_eq_some hf
  have h2:=List.find?_some hf
  exact⟨h1,by simpa[isT] using h2⟩
section
variable{x:Wld} {k:Nat} {t:Task}
theorem task1 (h:WI x) (ht:x.tasks[k]? =some t) (hop:t.op=1):sV t.s∧k < 3∧t.hand=[]∧((t.pc=3∧(1≤t.trace∧t.trace≤999)∧1≤t.stamp)∨(t.pc≠3∧t.trace=0∧t.stamp=0)):=by
 obtain⟨-,-,-,q|q|q⟩:=(h.tasks k t ht).1.1
 ·rw[q] at hop;cases hop
 ·exact⟨q.2.2.1,by have:=q.2.1;omega,List.length_eq_zero_iff.1 (by have:=q.2.2.2.1;omega),q.2.2.2.2⟩
 ·omega
theorem zi (h:WI x) (ht:x.tasks[k]? =some t) (hop:t.op=1) {pc tr st:Int} (hpc:0≤pc∧pc≤3) (hx:(pc=3∧(1≤tr∧tr≤999)∧1≤st)∨(pc≠3∧tr=0∧st=0)):lq x k {t with pc:=pc,trace:=tr,stamp:=st}:=by
 obtain⟨⟨h1,h2,h3,h4⟩,h5⟩:=(h.tasks k t ht).1
 obtain⟨q1,q2,q3,-⟩:=task1 h ht hop
 refine⟨⟨h1,hpc,h3,.inr (.inl ⟨hop,by omega,q1,by show(t.hand.length:Int)=0;rw[q3];rfl,hx⟩)⟩,fun _=>?_⟩
 obtain⟨d,hg,⟨f1,f2,f3,f4⟩,hm⟩:=h.own ht (by omega)
 show match x.aF[t.h.toNat]? with|none=>False|some d=>nk k _ d
 rw[hg]
 refine⟨f1,f2,?_,.inl ?_⟩
 ·rw[f3]
  constructor
  ·intro q;omega
  ·intro q;have:=q.1;simp only at this;omega
 ·rcases f4 with q|q
  ·exact q
  ·omega
theorem Mw {pc:Int} (h: ¬ t.pc=3) (hp: ¬ pc=3) (hx:(t.pc=3∧(1≤t.trace∧t.trace≤999)∧1≤t.stamp)∨(t.pc≠3∧t.trace=0∧t.stamp=0)):(pc=3∧(1≤t.trace∧t.trace≤999)∧1≤t.stamp)∨(pc≠3∧t.trace=0∧t.stamp=0):=by
 rcases hx with q|q
 ·exact absurd q.1 h
 ·exact .inr ⟨hp,q.2⟩
theorem Va {l:List aR} {i:Nat} {y y':aR} (hy:l[i]? =some y):held (l.set i y')=held l - bD dW y.l+bD dW y'.l:=by
 unfold held
 rw[wS hy,u6 hy]
 simp only[qG]
 omega
theorem TR {x':Wld} (h:nE x) (ht:x'.tasks=x.tasks) (hr:x'.bg=x.bg) (hl:x'.st.length=x.st.length) (hs:∀ (i:Nat) (s:aR),x'.st[i]? =some s→∃ y,x.st[i]? =some y∧s.held=y.held):nE x':=by
 obtain⟨l1,l2,l3⟩:=h
 refine⟨fun i s q=>?_,by rw[ht,hr];exact l2,by rw[ht,hr];exact l3⟩
 obtain⟨y,hy,e⟩:=hs i s q
 rw[ht,e,hl]
 exact l1 i y hy
theorem Vb {l:List aR} {i:Nat} {y y':aR} (hy:l[i]? =some y) (he:y'.held=y.held) {j:Nat} {s:aR} (hs:(l.set i y')[j]? =some s):∃ z,l[j]? =some z∧s.held=z.held:=by
 rw[List.getElem?_set] at hs
 split at hs
 ·rename_i e
  split at hs
  ·cases hs;subst e;exact⟨y,hy,he⟩
  ·cases hs
 ·exact⟨s,hs,rfl⟩
theorem WI.hold (h:WI x) (hs:Sml x) (ht:x.tasks[k]? =some t) (hop:t.op=1) (hroom: ¬ x.c.budget < wr (x.used+dR t.s)) (hsh: ¬ x.shut=true) (vT:(timers x.w).length≤15):WI (lu x t):=by
 obtain⟨hok,-,-,-⟩:=task1 h ht hop
 have hok0:=hok
 obtain⟨htr,-,-,-,hsz⟩:=hok
 have hu0:=h.used
 have hu1:=h.budget
 have hu2:=h.conf.2.2.1
 have hn:=Mg x.st
 have h12:=KR t.s
 have hw:wr (x.used+dR t.s)=x.used+dR t.s:=xE (by omega) (by omega)
 rw[hw] at hroom
 have hwi:=iw.1 h.w
 have iD:=hwi.now
 have aj5:=h.now
 obtain⟨y,hy⟩:=kW h.n1 t.s.trace
 obtain⟨a1,a2,a3⟩:=h.st.2.1 _ _ hy
 have hb:=jg (t:=t.s.trace) h.n1
 have hi:(((stripe t.s.trace x.st.length).toNat:Nat):Int)=stripe t.s.trace x.st.length:=by omega
 unfold lu
 rw[hw]
 cases hf:dP x.st t.s.trace with
 |some o=>
  obtain⟨e1,e2⟩:=kP hf
  obtain⟨y',j,hy',hj,hidx,hid⟩:=ze hf
  rw[hy] at hy';cases hy'
  have hoy:=List.mem_of_getElem? hj
  have hot:=(a2 o hoy).1
  have hst:kI x t=o.stamp:=by unfold kI;rw[e2,if_pos rfl,e1]
  have hadd:=Ux (s:=t.s) (st:=o.stamp) (nw:=x.w.now) hidx hj
  simp only[e2,if_true,gV hy,hst,hadd]
  have hsp:=oC hj
  have hal:∀ {β:Type} (f:Trail→β),f {o with spans:=o.spans++[t.s]}=f o→(allT (x.st.set (stripe t.s.trace x.st.length).toNat {y with l:=y.l.take j++{o with spans:=o.spans++[t.s]}::y.l.drop (j+1)})).map f=(allT x.st).map f:=fun f hfe=>by
   rw[wS hy,u6 hy]
   conv=>rhs;rw[hsp]
   simp only[List.map_append,List.map_cons,hfe]
  have hmem:∀ u∈allT (x.st.set (stripe t.s.trace x.st.length).toNat {y with l:=y.l.take j++{o with spans:=o.spans++[t.s]}::y.l.drop (j+1)}),∃ v∈allT x.st,v.id=u.id∧v.stamp=u.stamp:=fun u hu=>by
   have:=hal (fun t=>(t.id,t.stamp)) rfl
   have hm:(u.id,u.stamp)∈(allT x.st).map fun t=>(t.id,t.stamp):=by rw[←this];exact List.mem_map_of_mem hu
   obtain⟨v,hv,e⟩:=List.mem_map.1 hm
   exact⟨v,hv,by simpa using congrArg Prod.fst e,by simpa using congrArg Prod.snd e⟩
  refine⟨h.conf,h.time,h.next,?_,by show((x.st.set _ _).length:Int)=_;rw[List.length_set];exact h.stl,h.b,h.bc,h.cache,?_,by show x.used+dR t.s≤x.c.budget;omega,h.w,h.now,h.shut,h.ql,h.queue,h.out,h.aF,h.tl,fun u hu=>?_,h.cst,h.tms,h.tasks,?_⟩
  ·refine KH hy h.st a1 (fun u hu=>?_) ?_ ?_
   ·simp only[List.mem_append,List.mem_cons] at hu
    rcases hu with q|q|q
    ·exact a2 u (List.take_subset _ _ q)
    ·rw[q]
     refine⟨⟨fun s hs=>?_,hot.2.1,hot.2.2.1,hot.2.2.2.1,by simp⟩,(a2 o hoy).2⟩
     rcases List.mem_append.1 hs with g|g
     ·exact hot.1 s g
     ·rw[List.mem_singleton.1 g];exact⟨hok0,hid.symm⟩
    ·exact a2 u (List.drop_subset _ _ q)
   ·rw[hsp] at a3
    have p:(y.l.take j++o::y.l.drop (j+1)).map (·.id)=(y.l.take j++{o with spans:=o.spans++[t.s]}::y.l.drop (j+1)).map (·.id):=by simp
    have q1:((y.l.take j++o::y.l.drop (j+1)).map (·.id)).Pairwise (·< ·):=List.pairwise_map.2 a3
    rw[p] at q1
    show List.Pairwise (fun a b:Trail=>a.id < b.id) _
    exact List.pairwise_map.1 q1
   ·rw[hal (fun t=>t.stamp) rfl];exact h.st.2.2
  ·show x.used+dR t.s=held (x.st.set _ _)
   rw[Va hy,hu0]
   have e3:bD dW y.l=bD dW (y.l.take j)+(dW o+bD dW (y.l.drop (j+1))):=by
    conv=>lhs;rw[hsp]
    rw[qG];rfl
   have e4:dW {o with spans:=o.spans++[t.s]}=dW o+dR t.s:=by
    unfold dW;rw[qG];simp[bD]
   simp only[qG,bD,e4]
   omega
  ·obtain⟨v,hv,v1,v2⟩:=hmem u hu
   have:=h.iX v hv
   rw[v1,v2] at this
   exact this
  ·exact TR (x':={x with st:=x.st.set _ _,used:=x.used+dR t.s}) h.dB rfl rfl (by simp) fun i s q=>Vb hy (by rfl) q
 |none=>
  obtain⟨e1,e2⟩:=nG hf
  have hidx:=TU hf y hy
  have hst:kI x t=x.next:=by unfold kI;rw[e2,if_neg (by decide)]
  obtain⟨hpw,hperm⟩:=Uy (s:=t.s) (st:=x.next) (nw:=x.w.now) hidx a3
  have hadd:cK x.w.now x.c.wait=x.w.now+x.c.wait:=by
   have hc:=h.conf.2.1
   unfold cK cap
   omega
  have hc:=h.conf.2.1
  have hnx:=h.next
  have htm:∀ u∈timers x.w,u.id≠x.next:=fun u hu e=>by
   have:=(h.tms u (List.mem_append_left _ hu)).1;omega
  have hput:gX x.w ⟨x.next,t.s.trace,cK x.w.now x.c.wait⟩=dV x.w ⟨x.next,t.s.trace,cK x.w.now x.c.wait⟩:=VJ hwi (by show x.w.now < cK _ _;omega) (by show cK _ _≤_;omega) (by show 1≤x.next;omega) htr htm vT
  have YC:=ME (t:=⟨x.next,t.s.trace,cK x.w.now x.c.wait⟩) hwi (by show x.w.now < cK _ _;omega) (by show cK _ _≤_;omega) (by show 1≤x.next;omega) htr htm vT
  have hlp:=BZ (t:=⟨x.next,t.s.trace,cK x.w.now x.c.wait⟩) hwi (by show x.w.now < cK _ _;omega)
  have hwn:wr (x.next+1)=x.next+1:=Xm (by omega) hs.2
  have hln:=wW (w:=x.w) (t:=⟨x.next,t.s.trace,cK x.w.now x.c.wait⟩)
  obtain⟨W,hW⟩:∃ W,W=dV x.w ⟨x.next,t.s.trace,cK x.w.now x.c.wait⟩:=⟨_,rfl⟩
  rw[←hW] at hput YC hlp hln
  obtain⟨L,hL⟩:∃ L,L=lH y.l t.s x.next x.w.now:=⟨_,rfl⟩
  rw[←hL] at hpw hperm
  have e2': ¬ fH x.st t.s.trace=true:=by rw[e2];decide
  simp only[if_neg e2',gV hy,hst,hput,hwn,←hL]
  have Db:(allT (x.st.set (stripe t.s.trace x.st.length).toNat {y with l:=L})).Perm (⟨t.s.trace,x.next,x.w.now,[t.s]⟩::allT x.st):=by
   rw[wS hy,u6 hy]
   refine(List.Perm.append_left _ (List.Perm.append_right _ hperm)).trans ?_
   simp only[List.cons_append]
   exact List.perm_middle
  have hall:∀ u,u∈allT (x.st.set (stripe t.s.trace x.st.length).toNat {y with l:=L})↔u=⟨t.s.trace,x.next,x.w.now,[t.s]⟩∨u∈allT x.st:=fun u=>by rw[Db.mem_iff,List.mem_cons]
  refine⟨h.conf,h.time,by show 1≤x.next+1;omega,?_,by show((x.st.set _ _).length:Int)=_;rw[List.length_set];exact h.stl,h.b,by show _∧_∧x.b.at_≤W.now;rw[hln];exact h.bc,h.cache,?_,by show x.used+dR t.s≤x.c.budget;omega,iw.2 YC,by show W.now≤_;rw[hln];exact h.now,fun q=>absurd q hsh,h.ql,h.queue,h.out,h.aF,h.tl,fun u hu=>?_,fun v hv=>by show v.stamp < x.next+1;have:=h.cst v hv;omega,fun u hu=>?_,fun j u hu=>?_,?_⟩
  ·refine KH hy h.st a1 (fun u hu=>?_) hpw ?_
   ·rcases List.mem_cons.1 (hperm.mem_iff.1 hu) with q|q
    ·rw[q]
     refine⟨⟨fun s hs=>?_,htr,by show 1≤x.next;omega,⟨by show 0≤x.w.now;omega,by show x.w.now≤_;omega⟩,by simp⟩,hi.symm⟩
     rw[List.mem_singleton.1 hs];exact⟨hok0,rfl⟩
    ·exact a2 u q
   ·rw[(Db.map _).nodup_iff,List.map_cons,List.nodup_cons]
    refine⟨fun hm=>?_,h.st.2.2⟩
    obtain⟨u,hu,e⟩:=List.mem_map.1 hm
    have:=(h.iX u hu).1
    simp only at e
    omega
  ·show x.used+dR t.s=held (x.st.set _ _)
   unfold held
   rw[af8 Db,hu0]
   simp only[bD,dW,held]
   omega
  ·rcases(hall u).1 hu with q|q
   ·rw[q]
    refine⟨by show x.next < x.next+1;omega,.inl ⟨⟨x.next,t.s.trace,cK x.w.now x.c.wait⟩,List.mem_append_left _ ?_,rfl,rfl⟩⟩
    exact hlp.mem_iff.2 List.mem_cons_self
   ·obtain⟨g1,g2⟩:=h.iX u q
    refine⟨by show u.stamp < x.next+1;omega,g2.imp (fun⟨z,hz,z1,z2⟩=>⟨z,?_,z1,z2⟩) fun q=>q⟩
    rcases List.mem_append.1 hz with g|g
    ·exact List.mem_append_left _ (hlp.mem_iff.2 (List.mem_cons_of_mem _ g))
    ·exact List.mem_append_right _ g
  ·show(1≤u.id∧u.id≤x.next+1 - 1)∧_
   rcases List.mem_append.1 hu with g|g
   ·rcases List.mem_cons.1 (hlp.mem_iff.1 g) with q|q
    ·rw[q];exact⟨⟨by show 1≤x.next;omega,by show x.next≤_;omega⟩,htr⟩
    ·have:=h.tms u (List.mem_append_left _ q);exact⟨⟨this.1.1,by omega⟩,this.2⟩
   ·have:=h.tms u (List.mem_append_right _ g);exact⟨⟨this.1.1,by omega⟩,this.2⟩
  ·obtain⟨g1,g2⟩:=h.tasks j u hu
   exact⟨g1,by show u.stamp < x.next+1;omega⟩
  ·exact TR (x':={x with next:=x.next+1,w:=W,st:=x.st.set _ _,used:=x.used+dR t.s}) h.dB rfl rfl (by simp) fun i s q=>Vb hy (by rfl) q
theorem WI.look (h:WI x) (hs:Sml x) (ht:x.tasks[k]? =some t) (hop:t.op=1) (hpc:t.pc=1) (vT:(timers x.w).length≤15) {y:Wld} (hy:lookW x k t=some y):WI (cB y):=by
 obtain⟨hok,hk3,-,htp⟩:=task1 h ht hop
 unfold lookW at hy
 split at hy
 ·cases hy;exact h.ends hs.1 ht hop hpc ⟨by decide,by decide⟩
 ·rename_i hsh
  split at hy
  ·rename_i hv
   obtain⟨hvm,-⟩:=agP hv
   have hvo:=(zI.1 h.cache).1 _ hvm
   split at hy
   ·split at hy
    ·cases hy
    ·rename_i hq
     cases hy
     have hb:=h.que (q:=x.queue++[⟨(vOf x.cache t.s.trace).1.stamp,t.s⟩]) (by simp only[List.length_append,List.length_singleton];omega) fun z hz=>by
      rcases List.mem_append.1 hz with g|g
      ·exact h.queue z g
      ·rw[List.mem_singleton.1 g];exact⟨hvo.2,hok⟩
     exact hb.ends hs.1 ht hop hpc ⟨by decide,by decide⟩
   ·cases hy;exact h.ends hs.1 ht hop hpc ⟨by decide,by decide⟩
  ·split at hy
   ·cases hy
    refine h.free hs ht (tr:=t.s.trace) (Lr h.n1 hop hpc) (holds_none (by simp) (by simp;omega)) (by omega) (by simp;omega) ⟨zi h ht hop (pc:=2) ⟨by decide,by decide⟩ (Mw (by omega) (by decide) htp),(h.tasks k t ht).2⟩ fun id st q=>by have:=q.1;omega
   ·rename_i hroom
    cases hy
    exact(h.hold hs ht hop hroom hsh vT).ends (x:=lu x t) hs.1 ht hop hpc ⟨by decide,by decide⟩
end
end Go.Proofs.YtcgjihfngdhjjaaGreat
end
section
set_option linter.unusedSimpArgs false
set_option linter.unusedVariables false
namespace Go.Proofs.YtcgjihfngdhjjaaGreat
open Go Go.Ab
theorem WT:∀ {l:List Trail} {a:Option Trail} {o:Trail},l.foldl iU a=some o→a=some o∨o∈l
 |[],a,o,h=>.inl h
 |t::l,a,o,h=>by
  rw[List.foldl_cons] at h
  rcases WT h with q|q
  ·unfold iU at q
   split at q
   ·cases q;exact .inr List.mem_cons_self
   ·split at q
    ·cases q;exact .inr List.mem_cons_self
    ·exact .inl q
  ·exact .inr (List.mem_cons_of_mem _ q)
theorem agm {l:List Trail} {o:Trail} (h:oldest l=some o):o∈l:=by
 rcases WT h with q|q
 ·cases q
 ·exact q
section
variable{x:Wld} {k:Nat} {t:Task}
theorem Ck {t t':Task} (h:t.op=1):∀ id st,isJ id st t→isJ id st t':=fun id st q=>by have:=q.1;omega
theorem aiz {l:List bO} (h:∀ v∈l,0≤v.trace):∀ d,0≤gone l d
 |0=>Int.le_refl 0
 |d+1=>by
  unfold gone
  simp only
  cases q:l[d]? with
  |none=>exact Int.le_refl 0
  |some v=>exact h v (List.mem_of_getElem? q)
theorem Ut (h:WI x) {o:Trail} {keep:Bool} (ho:1≤o.id):0≤ko x o keep:=by
 unfold ko rem
 split
 ·exact Int.le_refl 0
 ·refine aiz (fun v hv=>?_) _
  unfold jK at hv
  rcases List.mem_append.1 hv with q|q
  ·have:=((zI.1 h.cache).1 v (List.mem_filter.1 q).1).1;omega
  ·rw[List.mem_singleton.1 q];show 0≤o.id;omega
theorem WI.akB (h:WI x) (hs:Sml x) (ht:x.tasks[k]? =some t) (hop:t.op=1) (hpc:t.pc=2) {y:Wld} (hy:pQ x k t=some y):WI (cB y):=by
 obtain⟨hok,hk3,-,htp⟩:=task1 h ht hop
 have htk:=(h.tasks k t ht).2
 have hno:bJ t x.st.length= -1:=holds_none (by omega) (by omega)
 unfold pQ at hy
 cases ho:oldest (allT x.st) with
 |none=>
  rw[ho] at hy
  cases hy
  exact h.on hs (r':=x.bg) (t':={t with pc:=0}) ht (by rw[hno];exact holds_none (by simp) (by simp)) (by rw[if_neg (by simp),if_neg (by omega)]) (fun q=>by simp at q) ⟨zi h ht hop (pc:=0) ⟨by decide,by decide⟩ (Mw (by omega) (by decide) htp),htk⟩ (Ck hop)
 |some o=>
  rw[ho] at hy
  simp only at hy
  have hin:=agm ho
  have hot:=BR h.st hin
  split at hy
  ·cases hy
  ·rename_i hf
   cases hy
   exact h.take hs (tr:=o.id) (t':={t with pc:=3,trace:=o.id,stamp:=o.stamp}) ht (by omega) hno (wP h.n1 (.inl ⟨hop,rfl⟩)) (by omega) (by simp) ⟨zi h ht hop (pc:=3) ⟨by decide,by decide⟩ (.inl ⟨rfl,hot.2.1,hot.2.2.1⟩),(h.iX o hin).1⟩ (Ck hop)
theorem WI.make (h:WI x) (hs:Sml x) (ht:x.tasks[k]? =some t) (hop:t.op=1) (hpc:t.pc=3):WI (cB (pV x k t)):=by
 obtain⟨hok,hk3,-,htp⟩:=task1 h ht hop
 unfold pV jY
 by_cases hc:fH x.st t.trace=true∧(dY x.st t.trace).stamp=t.stamp∧x.c.budget < wr (x.used+dR t.s)
 ·rw[if_pos hc]
  cases hf:dP x.st t.trace with
  |none=>have:=(nG hf).2;rw[this] at hc;exact absurd hc.1 (by decide)
  |some o=>
   obtain⟨e1,e2⟩:=kP hf
   obtain⟨hin,hid⟩:=zw hf
   rw[e1]
   have hot:=BR h.st hin
   obtain⟨f1,f2⟩:=h.forget (keep:=false) (o:=o) (by rw[hid];exact hf)
   have c1:WI {oQ x o false with w:=eP x.w o.stamp}:=f1.cancel (id:=o.stamp) fun u hu=>(f2 u hu).2.1
   obtain⟨y,hy⟩:∃ y,y={oQ x o false with w:=eP x.w o.stamp}:=⟨_,rfl⟩
   have yt:y.tasks=x.tasks:=by rw[hy];rfl
   have yti:y.time=x.time:=by rw[hy];rfl
   have yn:y.next=x.next:=by rw[hy];rfl
   have yd:y.aF=x.aF:=by rw[hy];rfl
   have yl:y.st=fU x.st o.id:=by rw[hy];rfl
   rw[←hy] at c1
   have ht':y.tasks[k]? =some t:=by rw[yt];exact ht
   have hsy:Sml y:=by unfold Sml;rw[yti,yn];exact hs
   have h3:=c1.free hsy (tr:=t.trace) (t':={t with pc:=0,trace:=0,stamp:=0}) ht' (wP c1.n1 (.inl ⟨hop,hpc⟩)) (holds_none (by simp) (by simp)) (by omega) (by simp) ⟨zi c1 ht' hop (pc:=0) ⟨by decide,by decide⟩ (.inr ⟨by decide,rfl,rfl⟩),by show(0:Int) < y.next;rw[yn];have:=h.next;omega⟩ (Ck hop)
   have ti:=wT h hs.1
   have hd:jL ⟨3,k,iA,o.id,o.stamp,0,false,false,0,o.spans.length,ko x o false,x.w.now,x.time,x.time,x.time⟩:=by
    have:=h.time
    have hn:0≤x.w.now:=(iw.1 h.w).now.1
    have hfo:=Ut h (o:=o) (keep:=false) hot.2.1.1
    refine⟨⟨by show(1:Int)≤3;omega,by show(3:Int)≤4;omega⟩,this,Int.le_refl 0,Int.natCast_nonneg _,hfo,hn,.inr ⟨by simp,rfl⟩,.inr (Int.le_refl _),.inr ⟨?_,Int.le_refl _⟩⟩
    show x.time≠-1
    omega
   have h4:=h3.more (d:=⟨3,k,iA,o.id,o.stamp,0,false,false,0,o.spans.length,ko x o false,x.w.now,x.time,x.time,x.time⟩) hd (by show x.time < wr (y.time+1);rw[yti,ti];omega) (by show x.time < wr (y.time+1);rw[yti,ti];omega) (by show x.time < wr (y.time+1);rw[yti,ti];omega)
   subst hy
   exact h4
 ·rw[if_neg hc]
  exact h.free hs (tr:=t.trace) (t':={t with pc:=0,trace:=0,stamp:=0}) ht (wP h.n1 (.inl ⟨hop,hpc⟩)) (holds_none (by simp) (by simp)) (by omega) (by simp) ⟨zi h ht hop (pc:=0) ⟨by decide,by decide⟩ (.inr ⟨by decide,rfl,rfl⟩),by show(0:Int) < x.next;have:=h.next;omega⟩ (Ck hop)
end
end Go.Proofs.YtcgjihfngdhjjaaGreat
end
section
set_option linter.unusedSimpArgs false
set_option linter.unusedVariables false
namespace Go.Proofs.YtcgjihfngdhjjaaGreat
open Go Go.Ab
section
variable{x:Wld} {k:Nat} {t:Task}
theorem task2 (h:WI x) (ht:x.tasks[k]? =some t) (hop:t.op=2):k < 5∧3≤k∧MF t∧t.s=CV∧(1≤t.trace∧t.trace≤999)∧1≤t.stamp:=by
 have hk:=(List.getElem?_eq_some_iff.1 ht).1
 have h5:=h.tl
 obtain⟨-,-,-,q|q|q⟩:=(h.tasks k t ht).1.1
 ·rw[q] at hop;cases hop
 ·omega
 ·exact⟨by omega,by have:=q.2.1;omega,q.2.2⟩
theorem UC (h:WI x) (ht:x.tasks[k]? =some t) (hop:t.op=2) {pc:Int} (h3:t.pc≠3) (hpc:0≤pc∧pc≤2):lq x k {t with pc:=pc}:=by
 obtain⟨⟨h1,-,h3',h4⟩,h5⟩:=(h.tasks k t ht).1
 obtain⟨hk5,hk3,⟨ha,hb⟩,hz,htr,hst⟩:=task2 h ht hop
 have hl: ¬ 0 < (t.hand.length:Int):=fun q=>h3 (hb.2 q)
 refine⟨⟨h1,⟨hpc.1,by show pc≤3;omega⟩,h3',.inr (.inr ⟨hop,by omega,⟨ha,⟨fun q=>by have:pc=3:=q;omega,fun q=>absurd q hl⟩⟩,hz,htr,hst⟩)⟩,fun _=>?_⟩
 obtain⟨d,hg,⟨f1,f2,f3,f4⟩,hm⟩:=h.own ht (by omega)
 show match x.aF[t.h.toNat]? with|none=>False|some d=>nk k _ d
 rw[hg]
 refine⟨f1,f2,?_,f4⟩
 rw[f3]
 exact⟨fun q=>absurd q.2 h3,fun q=>by have:pc=3:=q.2;omega⟩
theorem Xa {t t':Task} (h1:t'.op=t.op) (h2:t'.pc≠3) (h3:t'.stamp=t.stamp) (h4:t'.trace=t.trace):∀ id st,isJ id st t→isJ id st t':=fun id st q=>⟨by rw[h1];exact q.1,h2,by rw[h3];exact q.2.2.1,by rw[h4];exact q.2.2.2⟩
theorem agj {b:Bucket} {now:Int} (h:iT b) (hb:b.at_≤now):iT (pE b now)∧(pE b now).rate=b.rate∧(pE b now).aZ=b.aZ∧(pE b now).at_≤now:=by
 unfold pE
 split
 ·rename_i hc
  have hc:=oU hc
  obtain⟨h1,h2,h3,h4⟩:=h
  refine⟨⟨h1,h2,⟨?_,Int.min_le_right _ _⟩,by show 0≤now;omega,hc.2.2⟩,rfl,rfl,Int.le_refl _⟩
  show 0≤min (cK b.tokens (vP b.rate (nT now b.at_))) b.aZ
  have e1:0≤nT now b.at_:=by unfold nT cap;omega
  have e2:0≤vP b.rate (nT now b.at_):=by
   unfold vP
   have a1:0≤cap b.rate:=by unfold cap;omega
   have a2:0≤cap (nT now b.at_):=by unfold cap;omega
   have:=Int.mul_nonneg a1 a2
   generalize cap b.rate * cap (nT now b.at_)=m at *
   unfold cap;omega
  have e3:0≤cK b.tokens (vP b.rate (nT now b.at_)):=by
   generalize vP b.rate (nT now b.at_)=m at *
   unfold cK cap;omega
  omega
 ·exact⟨h,rfl,rfl,hb⟩
theorem ag1 {b:Bucket} {n:Int} (h:iT b):iT (kM b n)∧(kM b n).rate=b.rate∧(kM b n).aZ=b.aZ∧(kM b n).at_=b.at_:=by
 unfold kM
 split
 ·rename_i hc
  have hc:=oU hc
  obtain⟨h1,h2,h3,h4⟩:=h
  exact⟨⟨h1,h2,⟨by show 0≤b.tokens - n;omega,by show b.tokens - n≤b.aZ;omega⟩,h4⟩,rfl,rfl,rfl⟩
 ·exact⟨h,rfl,rfl,rfl⟩
theorem agq {p:Pol} {l:List Span} {n:Int} (h:0≤n):0≤xw p l n:=by
 unfold xw
 split
 ·split
  ·have:0≤cap n:=by unfold cap;omega
   omega
  ·exact Int.le_refl _
 ·exact Int.le_refl _
theorem WI.push (h:WI x) (hs:Sml x) (ht:x.tasks[k]? =some t) (hop:t.op=2) (hpc:t.pc=3) {y:Wld} (hy:pR x k t=some y):WI (cB y):=by
 obtain⟨hk5,hk3,⟨ha,hb⟩,hz,htr,hst⟩:=task2 h ht hop
 obtain⟨d,hg,⟨f1,f2,f3,f4⟩,hm⟩:=h.own ht (by omega)
 obtain⟨⟨d1,d2,d3,d4,d5,d6,d7,d8,d9⟩,g2,g3,g4⟩:=h.aF d hm
 have hlin:d.lin≠-1:=f3.2 ⟨hop,hpc⟩
 have h0:=h.time
 have hd8:d.inv≤d.lin:=by rcases d8 with q|q;exact absurd q hlin;exact q
 have hno:bJ t x.st.length= -1:=holds_none (by omega) (by omega)
 unfold pR at hy
 split at hy
 ·cases hy
 ·rename_i a ys hh
  split at hy
  ·cases hy
  ·rename_i hq
   have hia:=ha a (by rw[hh];exact List.mem_cons_self)
   have c1:=h.que (q:=x.queue++[a]) (by simp only[List.length_append,List.length_singleton];omega) fun z hz=>by
    rcases List.mem_append.1 hz with g|g
    ·exact h.queue z g
    ·rw[List.mem_singleton.1 g];exact hia.1
   cases hy
   by_cases hys:ys.length=0
   ·simp only[hys,if_true,gV hg]
    exact c1.fin hs.1 (t':=dX) (st':=x.st) (r':=x.bg) (d':={d with res:=x.time}) ht h.st rfl rfl hg f1 ⟨⟨d1,d2,d3,d4,d5,d6,d7,d8,.inr ⟨hlin,by show d.lin≤x.time;omega⟩⟩,by show d.inv≤x.time;omega,by show d.lin≤x.time;omega,Int.le_refl _⟩ (MZ hk5) (fun q=>absurd rfl q) (by show(0:Int) < x.next;have:=h.next;omega) (fun u _ q=>absurd hpc q.2.1) (Gg c1 ht rfl rfl (by rw[show bJ t _= -1 from hno];exact GI) (by rw[if_neg (by simp[dX]),if_neg (by omega)]) (fun q=>by simp[dX] at q))
   ·simp only[hys,if_false]
    have e:x.aF.set t.h.toNat d=x.aF:=by
     obtain⟨hlt,e⟩:=List.getElem?_eq_some_iff.1 hg
     rw[←e,List.set_getElem_self]
    have c2:=c1.fin hs.1 (t':={t with hand:=ys}) (st':=x.st) (r':=x.bg) (d':=d) ht h.st rfl rfl hg f1 ⟨⟨d1,d2,d3,d4,d5,d6,d7,d8,d9⟩,by show d.inv≤x.time;omega,by show d.lin≤x.time;omega,by show d.res≤x.time;omega⟩ ?_ (fun _=>⟨rfl,f1,f2,f3,f4⟩) (h.tasks k t ht).2 (fun u _ q=>absurd hpc q.2.1) (Gg c1 ht rfl rfl rfl (by rw[if_neg (by simp;omega),if_neg (by omega)]) (fun q=>by simp at q;omega))
    ·have c3:{x with queue:=x.queue++[a],st:=x.st,bg:=x.bg,aF:=x.aF.set t.h.toNat d,tasks:=x.tasks.set k {t with hand:=ys},time:=wr (x.time+1)}=cB {x with queue:=x.queue++[a],aF:=x.aF,tasks:=x.tasks.set k {t with hand:=ys}}:=by rw[e];rfl
     rw[←c3];exact c2
    ·obtain⟨⟨t1,t2,t3,-⟩,-⟩:=(h.tasks k t ht).1
     exact⟨t1,t2,t3,.inr (.inr ⟨hop,by omega,⟨fun z hz=>ha z (by rw[hh];exact List.mem_cons_of_mem _ hz),⟨fun _=>by show 0 < (ys.length:Int);omega,fun _=>hpc⟩⟩,hz,htr,hst⟩)⟩
end
end Go.Proofs.YtcgjihfngdhjjaaGreat
end
