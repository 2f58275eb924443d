import Derived.Test.YtcgjihfngdhjjaaGreatDW63
set_option linter.unusedSimpArgs false
set_option linter.unusedVariables false
namespace Go.Proofs.YtcgjihfngdhjjaaGreat
open Go Go.Ab
def Sml (x:Wld):Prop:=x.time < 4611686018427387904∧x.next < 4611686018427387904
theorem Xm {n:Int} (h0:0≤n) (h1:n < 4611686018427387904):wr (n+1)=n+1:=xE (by omega) (by omega)
theorem LP {l:List aW} {T:Int} (h:∀ d∈l,jL d∧d.inv < T∧d.lin < T∧d.res < T):∀ d∈l,jL d∧d.inv < T+1∧d.lin < T+1∧d.res < T+1:=fun d hd=>by
 obtain⟨h1,h2,h3,h4⟩:=h d hd
 exact⟨h1,by omega,by omega,by omega⟩
theorem ail {α:Type} {l:List α} {i:Nat} {f:α→α} {y:α} (h:y∈upd l i f):y∈l∨∃ a,l[i]? =some a∧y=f a:=by
 unfold upd at h
 split at h
 ·rename_i a ha
  rcases List.mem_or_eq_of_mem_set h with e|e
  ·exact .inl e
  ·exact .inr ⟨a,ha,e⟩
 ·exact .inl h
theorem Mi {l:List Task} {k:Nat} {t t':Task} {id st:Int} (ht:l[k]? =some t) (hj:isJ id st t→isJ id st t') (h:∃ u∈l,isJ id st u):∃ u∈l.set k t',isJ id st u:=by
 obtain⟨u,hu,hju⟩:=h
 obtain⟨j,hjl⟩:=List.mem_iff_getElem?.1 hu
 have hk:=(List.getElem?_eq_some_iff.1 ht).1
 by_cases e:j=k
 ·subst e
  rw[ht] at hjl;cases hjl
  exact⟨t',List.mem_of_getElem? (by rw[List.getElem?_set_self hk]),hj hju⟩
 ·exact⟨u,List.mem_of_getElem? (by rw[List.getElem?_set_ne (fun q=>e q.symm)];exact hjl),hju⟩
theorem Um {t:Task} {k:Int} (h:vv t k) (h0:t.op=0):t=dX:=by
 obtain⟨-,-,-,h|h|h⟩:=h
 ·exact h
 ·omega
 ·omega
theorem GI {n:Int}:bJ dX n= -1:=by
 unfold bJ dX
 split
 ·rfl
 ·simp
theorem Lr {t:Task} {n:Int} (hn:1≤n) (h:t.op=1) (hp:t.pc=1):bJ t n=stripe t.s.trace n:=by
 unfold bJ
 rw[if_neg (by omega),if_pos ⟨h,hp⟩]
theorem wP {t:Task} {n:Int} (hn:1≤n) (h:(t.op=1∧t.pc=3)∨(t.op=2∧(t.pc=1∨t.pc=2))):bJ t n=stripe t.trace n:=by
 unfold bJ
 rw[if_neg (by omega),if_neg (by omega),if_pos h]
theorem holds_none {t:Task} {n:Int} (h1: ¬ (t.op=1∧t.pc=1)) (h2: ¬ ((t.op=1∧t.pc=3)∨(t.op=2∧(t.pc=1∨t.pc=2)))):bJ t n= -1:=by
 unfold bJ
 rw[if_neg h1,if_neg h2]
 split<;>rfl
section
variable{x:Wld} {k:Nat} {t t':Task}
theorem WI.n1 (h:WI x):1≤(x.st.length:Int):=h.st.1.1
theorem WI.mv (h:WI x) {st':List aR} {r':Int} (ht:x.tasks[k]? =some t) (hs:mg st') (ha:allT st'=allT x.st) (hl:st'.length=x.st.length)
  (h':lq x k t'∧t'.stamp < x.next) (hj:∀ id st,isJ id st t→isJ id st t')
  (hlk:nE {x with st:=st',bg:=r',tasks:=x.tasks.set k t'}):WI {x with st:=st',bg:=r',tasks:=x.tasks.set k t',time:=x.time+1}:=by
 have hhe:held st'=held x.st:=by unfold held;rw[ha]
 refine⟨h.conf,by show 0≤x.time+1;have:=h.time;omega,h.next,hs,by show(st'.length:Int)=_;rw[hl];exact h.stl,h.b,h.bc,h.cache,by show x.used=held st';rw[hhe];exact h.used,h.budget,h.w,h.now,h.shut,h.ql,h.queue,h.out,LP h.aF,by show(x.tasks.set k t').length=5;rw[List.length_set];exact h.tl,fun u hu=>?_,h.cst,h.tms,?_,hlk⟩
 ·have hu:u∈allT st':=hu
  rw[ha] at hu
  obtain⟨h1,h2⟩:=h.iX u hu
  exact⟨h1,h2.imp id fun q=>Mi ht (hj _ _) q⟩
 ·exact Le (x:=x) (x':={x with st:=st',bg:=r',tasks:=x.tasks.set k t',time:=x.time+1}) h.tasks ht rfl (Int.le_refl _) (fun i d hd _=>hd) h'
theorem BL {tr v:Int} (h:WI x) {i:Nat} {s':aR} (hs:(fD x.st tr v)[i]? =some s'):∃ s,x.st[i]? =some s∧s'.held=if(i:Int)=stripe tr x.st.length then v else s.held:=by
 obtain⟨y,hy,-,h1,h2⟩:=agp h.n1 hs
 refine⟨y,hy,?_⟩
 split
 ·rename_i e;exact h1 e
 ·rename_i e;exact h2 e
theorem agv (h:WI x) {tr:Int} {i:Nat} {s:aR} (hi:(i:Int)=stripe tr x.st.length) (hs:x.st[i]? =some s):ku x tr=s.held:=GJ (by rw[←hi];simpa using hs)
theorem afF {x':Wld} (h:WI x) (ht:x.tasks[k]? =some t) {tr:Int} (hf:ku x tr= -1) (htk:x'.tasks=x.tasks.set k t') (hst:x'.st=fD x.st tr k) (hr:x'.bg=x.bg)
  (h0:bJ t x.st.length= -1) (h1:bJ t' x.st.length=stripe tr x.st.length) (hr0: ¬ (t.op=2∧t.pc=2)) (hr1: ¬ (t'.op=2∧t'.pc=2)):nE x':=by
 have hb:=jg (t:=tr) h.n1
 refine Lj h.dB ht htk (by rw[hst,qE]) (fun i s' hs'=>?_) (fun _ _ i s hi hs=>?_) (by rw[hr,if_neg hr1,if_neg hr0]) (fun q=>absurd q hr1)
 ·rw[hst] at hs'
  obtain⟨s,hs,he⟩:=BL h hs'
  refine⟨s,hs,?_⟩
  rw[he,h1,h0]
  by_cases e:(i:Int)=stripe tr x.st.length
  ·rw[if_pos e,if_pos e.symm]
  ·rw[if_neg e,if_neg (fun q=>e q.symm),if_neg (by omega)]
 ·rw[←agv h (hi.trans h1) hs];exact hf
theorem Gh {x':Wld} (h:WI x) (ht:x.tasks[k]? =some t) {tr:Int} (htk:x'.tasks=x.tasks.set k t') (hlen:x'.st.length=x.st.length)
  (hst:∀ (i:Nat) (s':aR),x'.st[i]? =some s'→∃ s,x.st[i]? =some s∧s'.held=if(i:Int)=stripe tr x.st.length then -1 else s.held)
  (h0:bJ t x.st.length=stripe tr x.st.length) (h1:bJ t' x.st.length= -1) (hr:x'.bg=if t.op=2∧t.pc=2 then -1 else x.bg) (hr1: ¬ (t'.op=2∧t'.pc=2)):nE x':=by
 have hb:=jg (t:=tr) h.n1
 refine Lj h.dB ht htk hlen (fun i s' hs'=>?_) (fun q=>by omega) (by rw[hr,if_neg hr1]) (fun q=>absurd q hr1)
 obtain⟨s,hs,he⟩:=hst i s' hs'
 refine⟨s,hs,?_⟩
 rw[he,h1,h0,if_neg (show¬ (-1:Int)=(i:Int) by omega)]
 by_cases e:(i:Int)=stripe tr x.st.length
 ·rw[if_pos e,if_pos e.symm]
 ·rw[if_neg e,if_neg (fun q=>e q.symm)]
theorem Gg {x':Wld} (h:WI x) (ht:x.tasks[k]? =some t) (htk:x'.tasks=x.tasks.set k t') (hst:x'.st=x.st) (h1:bJ t' x.st.length=bJ t x.st.length)
  (hr:x'.bg=if t'.op=2∧t'.pc=2 then(k:Int) else if t.op=2∧t.pc=2 then -1 else x.bg) (hrf:(t'.op=2∧t'.pc=2)→¬ (t.op=2∧t.pc=2)→x.bg= -1):nE x':=by
 refine Lj h.dB ht htk (by rw[hst]) (fun i s' hs'=>?_) (fun _ q=>absurd h1 q) hr hrf
 rw[hst] at hs'
 refine⟨s',hs',?_⟩
 rw[h1]
 split
 ·rename_i e
  exact(h.dB.1 i s' hs').2 k t ht |>.1 e
 ·rfl
theorem wT (h:WI x) (hs:x.time < 4611686018427387904):wr (x.time+1)=x.time+1:=Xm h.time hs
theorem WI.take (h:WI x) (hs:Sml x) (ht:x.tasks[k]? =some t) {tr:Int} (hf:ku x tr= -1) (h0:bJ t x.st.length= -1) (h1:bJ t' x.st.length=stripe tr x.st.length) (hr0: ¬ (t.op=2∧t.pc=2)) (hr1: ¬ (t'.op=2∧t'.pc=2))
  (h':lq x k t'∧t'.stamp < x.next) (hj:∀ id st,isJ id st t→isJ id st t'):WI (cB {x with st:=fD x.st tr k,tasks:=x.tasks.set k t'}):=by
 have e:cB {x with st:=fD x.st tr k,tasks:=x.tasks.set k t'}={x with st:=fD x.st tr k,bg:=x.bg,tasks:=x.tasks.set k t',time:=x.time+1}:=by unfold cB;simp only[wT h hs.1]
 have hk:=(List.getElem?_eq_some_iff.1 ht).1
 have h5:=h.tl
 rw[e]
 exact h.mv ht (Bc h.st ⟨by omega,by omega⟩) wL qE h' hj (afF h ht hf rfl rfl rfl h0 h1 hr0 hr1)
theorem WI.on (h:WI x) (hs:Sml x) {r':Int} (ht:x.tasks[k]? =some t) (h1:bJ t' x.st.length=bJ t x.st.length)
  (hr:r'=if t'.op=2∧t'.pc=2 then(k:Int) else if t.op=2∧t.pc=2 then -1 else x.bg) (hrf:(t'.op=2∧t'.pc=2)→¬ (t.op=2∧t.pc=2)→x.bg= -1)
  (h':lq x k t'∧t'.stamp < x.next) (hj:∀ id st,isJ id st t→isJ id st t'):WI (cB {x with bg:=r',tasks:=x.tasks.set k t'}):=by
 have e:cB {x with bg:=r',tasks:=x.tasks.set k t'}={x with st:=x.st,bg:=r',tasks:=x.tasks.set k t',time:=x.time+1}:=by unfold cB;simp only[wT h hs.1]
 rw[e]
 exact h.mv ht h.st rfl rfl h' hj (Gg h ht rfl rfl h1 hr hrf)
theorem WI.free (h:WI x) (hs:Sml x) (ht:x.tasks[k]? =some t) {tr:Int} (h0:bJ t x.st.length=stripe tr x.st.length) (h1:bJ t' x.st.length= -1) (hr0: ¬ (t.op=2∧t.pc=2)) (hr1: ¬ (t'.op=2∧t'.pc=2))
  (h':lq x k t'∧t'.stamp < x.next) (hj:∀ id st,isJ id st t→isJ id st t'):WI (cB {x with st:=fD x.st tr (-1),tasks:=x.tasks.set k t'}):=by
 have e:cB {x with st:=fD x.st tr (-1),tasks:=x.tasks.set k t'}={x with st:=fD x.st tr (-1),bg:=x.bg,tasks:=x.tasks.set k t',time:=x.time+1}:=by unfold cB;simp only[wT h hs.1]
 rw[e]
 exact h.mv ht (Bc h.st ⟨by omega,by omega⟩) wL qE h' hj (Gh h ht rfl qE (fun i s' hs'=>BL h hs') h0 h1 (by rw[if_neg hr0]) hr1)
theorem WI.deed (h:WI x) {d:aW} (hd:jL d) (h1:d.inv≤x.time) (h2:d.lin≤x.time) (h3:d.res≤x.time):∀ e∈x.aF++[d],jL e∧e.inv < x.time+1∧e.lin < x.time+1∧e.res < x.time+1:=fun e he=>by
 rcases List.mem_append.1 he with q|q
 ·exact LP h.aF e q
 ·rw[List.mem_singleton.1 q];exact⟨hd,by omega,by omega,by omega⟩
theorem Hg {α:Type} {l m:List α} {i:Nat} {a:α} (h:l[i]? =some a):(l++m)[i]? =some a:=by
 rw[List.getElem?_append_left (List.getElem?_eq_some_iff.1 h).1];exact h
theorem aiC {α:Type} {l:List α} {a:α}:(l++[a])[l.length]? =some a:=by
 rw[List.getElem?_append_right (Nat.le_refl _),Nat.sub_self];rfl
theorem WI.bad (h:WI x) (hs:Sml x) {s:Span} (hk:k < 5):WI {x with aF:=x.aF++[⟨1,k,s,0,0,5,false,false,0,0,0,x.w.now,x.time,x.time,x.time⟩],time:=wr (x.time+1)}:=by
 have h0:=h.time
 have hw:=h.w.1.1
 rw[wT h hs.1]
 refine⟨h.conf,by show 0≤x.time+1;omega,h.next,h.st,h.stl,h.b,h.bc,h.cache,h.used,h.budget,h.w,h.now,h.shut,h.ql,h.queue,h.out,h.deed ?_ ?_ ?_ ?_,h.tl,h.iX,h.cst,h.tms,fun j u hu=>?_,h.dB⟩
 ·exact⟨⟨by simp,by simp⟩,h0,by simp,by simp,by simp,hw,.inl ⟨rfl,by show x.time≠-1;omega,by simp,by simp⟩,.inr (Int.le_refl _),.inr ⟨by show x.time≠-1;omega,Int.le_refl _⟩⟩
 ·exact Int.le_refl _
 ·exact Int.le_refl _
 ·exact Int.le_refl _
 ·obtain⟨⟨a1,a2⟩,a3⟩:=h.tasks j u hu
  refine⟨⟨a1,fun hop=>?_⟩,a3⟩
  have hde:=a2 hop
  unfold mO at hde ⊢
  cases hg:x.aF[u.h.toNat]? with
  |none=>rw[hg] at hde;exact hde.elim
  |some d=>rw[hg] at hde;rw[Hg hg];exact hde
theorem WI.start (h:WI x) (hs:Sml x) {mW:List Ab.Timer} {d:aW} (ht:x.tasks[k]? =some dX) (hd:jL d) (hi:d.inv≤x.time) (hl:d.lin= -1) (hr:d.res= -1) (hh:t'.h=x.aF.length) (hd2:nk k t' d) (htk:vv t' k) (hst:t'.stamp < x.next)
  (hh1:bJ t' x.st.length= -1) (XI: ¬ (t'.op=2∧t'.pc=2)) (ND:∀ u∈mW,u∈x.due) (hkn:∀ u∈x.due,u ∉ mW→isJ u.trace u.id t'):
  WI {x with due:=mW,tasks:=x.tasks.set k t',aF:=x.aF++[d],time:=wr (x.time+1)}:=by
 have h0:=h.time
 rw[wT h hs.1]
 have hk:=(List.getElem?_eq_some_iff.1 ht).1
 refine⟨h.conf,by show 0≤x.time+1;omega,h.next,h.st,h.stl,h.b,h.bc,h.cache,h.used,h.budget,h.w,h.now,h.shut,h.ql,h.queue,h.out,h.deed hd hi (by omega) (by omega),by show(x.tasks.set k t').length=5;rw[List.length_set];exact h.tl,fun u hu=>?_,h.cst,fun u hu=>?_,?_,?_⟩
 ·obtain⟨h1,h2⟩:=h.iX u hu
  refine⟨h1,?_⟩
  rcases h2 with⟨z,hz,e1,e2⟩|q
  ·rcases List.mem_append.1 hz with g|g
   ·exact .inl ⟨z,List.mem_append_left _ g,e1,e2⟩
   ·by_cases hm:z∈mW
    ·exact .inl ⟨z,List.mem_append_right _ hm,e1,e2⟩
    ·have:=hkn z g hm
     rw[e1,e2] at this
     exact .inr ⟨t',List.mem_of_getElem? (by show(x.tasks.set k t')[k]? =_;rw[List.getElem?_set_self hk]),this⟩
  ·refine .inr (Mi ht (fun q=>?_) q)
   have:=q.1
   simp[dX] at this
 ·rcases List.mem_append.1 hu with g|g
  ·exact h.tms u (List.mem_append_left _ g)
  ·exact h.tms u (List.mem_append_right _ (ND u g))
 ·refine Le (x:=x) (x':={x with due:=mW,tasks:=x.tasks.set k t',aF:=x.aF++[d],time:=x.time+1}) h.tasks ht rfl (Int.le_refl _) (fun i d hd _=>Hg hd) ⟨⟨htk,fun _=>?_⟩,hst⟩
  unfold mO
  show match(x.aF++[d])[t'.h.toNat]? with|none=>False|some d=>nk k t' d
  rw[hh,Int.toNat_natCast,aiC]
  exact hd2
 ·refine Gg (x':={x with due:=mW,tasks:=x.tasks.set k t',aF:=x.aF++[d],time:=x.time+1}) h ht rfl rfl (by rw[hh1,GI]) ?_ (fun q=>absurd q XI)
  rw[if_neg XI,if_neg (by simp[dX])]
theorem WI.offer (h:WI x) (hs:Sml x) {s:Span} (ht:x.tasks[k]? =some t) (h0:t.op=0) (hk:k < 3):WI (pF x k s):=by
 have htk:=(h.tasks k t ht).1.1
 have e:=Um htk h0
 subst e
 unfold pF
 by_cases hf:fits x.c s
 ·rw[fK hf,if_pos rfl]
  have hw:=h.w.1.1
  have h1:=h.time
  refine h.start (mW:=x.due) hs ht ?_ (Int.le_refl _) rfl rfl rfl ?_ ?_ ?_ ?_ ?_ (fun _ q=>q) (fun _ q q'=>absurd q q')
  ·exact⟨⟨by simp,by simp⟩,h1,by simp,by simp,by simp,hw,.inr ⟨by simp,rfl⟩,.inl rfl,.inl rfl⟩
  ·exact⟨rfl,rfl,by simp,.inl ⟨rfl,rfl,rfl⟩⟩
  ·exact⟨by show 0≤(x.aF.length:Int);omega,⟨by simp,by simp⟩,⟨by omega,by omega⟩,.inr (.inl ⟨rfl,by omega,hf.1,rfl,.inr ⟨by simp,rfl,rfl⟩⟩)⟩
  ·show(0:Int) < x.next;have:=h.next;omega
  ·exact holds_none (by simp) (by simp)
  ·simp
 ·rw[gM hf,if_neg (by decide)]
  exact h.bad hs (by omega)
theorem WI.begin (h:WI x) (hs:Sml x) (ht:x.tasks[k]? =some t) (h0:t.op=0) (hk:3≤k):WI (mE x k)∨x.due=[]:=by
 have htk:=(h.tasks k t ht).1.1
 have e:=Um htk h0
 subst e
 cases hd:x.due with
 |nil=>exact .inr rfl
 |cons z rest=>
  left
  unfold mE
  rw[hd]
  have hw:=h.w.1.1
  have h1:=h.time
  have hz:=h.tms z (List.mem_append_right _ (by rw[hd];simp))
  have hk5:=(List.getElem?_eq_some_iff.1 ht).1
  have h5:=h.tl
  refine h.start (mW:=rest) hs ht ?_ (Int.le_refl _) rfl rfl rfl ?_ ?_ ?_ ?_ ?_ (fun u q=>by rw[hd];simp[q]) (fun u q q'=>?_)
  ·exact⟨⟨by simp,by simp⟩,h1,by simp,by simp,by simp,hw,.inr ⟨by simp,rfl⟩,.inl rfl,.inl rfl⟩
  ·exact⟨rfl,rfl,by simp,.inr ⟨rfl,rfl,rfl,rfl⟩⟩
  ·exact⟨by show 0≤(x.aF.length:Int);omega,⟨by simp,by simp⟩,⟨by omega,by omega⟩,.inr (.inr ⟨rfl,by omega,⟨by simp,by simp⟩,rfl,hz.2,hz.1.1⟩)⟩
  ·show z.id < x.next;omega
  ·exact holds_none (by simp) (by simp)
  ·simp
  ·rw[hd] at q
   rcases List.mem_cons.1 q with e|e
   ·rw[e];exact⟨rfl,by simp,rfl,rfl⟩
   ·exact absurd e q'
end
end Go.Proofs.YtcgjihfngdhjjaaGreat
