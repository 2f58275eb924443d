import Derived.Test.YtekfdoknfcedpaaGreatDK5
set_option linter.unusedSimpArgs false
set_option linter.unusedVariables false
namespace Go.Ab
open Go.RowKit
structure EK (α:Type) [Cel α] (n:Nat) (g h:AH) (b o:Nat) (E:List AV) (v:AV) (xs:List α) (i:Nat) (R:List Nat):Prop where
 e:Elt α n h b o E v xs i R
 k:Kp g h [b]
section
variable{α:Type} [Cel α] {P:Program} {n b o i:Nat} {g h h':AH} {E E':List AV} {v:AV} {xs:List α} {R X F:List Nat} {Q:Nat→List AV→AH→Prop} {k:AV→Prog}
theorem EK.st_ {j m:Nat} {y:AV} {ys:List AV} (e:EK α n g h b o E v xs i R) (hx:y.cells? =some ys) (hn:ys.length=m) (s:SP E j ys E') (hk:∀ h2,EK α n g h2 b o E' v xs i R→Kp h h2 [b]→h2.n=h.n→(k (.tup [])).awp P h2 Q):(Prog.op (.st m (.ptr b (o+j)) y) k).awp P h Q:=e.e.st_ hx hn s fun h2 e2 k2 n2=>hk h2 ⟨e2,e.k.trans k2⟩ k2 n2
theorem EK.st0 {m:Nat} {y:AV} {ys:List AV} (e:EK α n g h b o E v xs i R) (hx:y.cells? =some ys) (hn:ys.length=m) (s:SP E 0 ys E') (hk:∀ h2,EK α n g h2 b o E' v xs i R→Kp h h2 [b]→h2.n=h.n→(k (.tup [])).awp P h2 Q):(Prog.op (.st m (.ptr b o) y) k).awp P h Q:=e.st_ (j:=0) hx hn s hk
theorem EK.at_ (e:EK α n g h b o E v xs i R):At h b o E:=e.e.at_
theorem EK.ext (e:EK α n g h b o E v xs i R) (x:Ext h h'):EK α n g h' b o E v xs i R:=⟨e.e.ext x,e.k.xE x⟩
theorem bD {b o m:Nat} (hk:(k (.int .i64 (m:Int))).awp P h Q):(Prog.op (.len 0 (.sl b o m)) k).awp P h Q:=by
 simp only[Prog.awp,AOp.go,vM,jN];exact hk
theorem jO {m:Nat} (r:au h (.sl b o m) xs F):b < h.n:=by
 rcases r with⟨e,_,_⟩|⟨b',off,F',cs0,e,_,h1,_⟩
 ·cases e
 ·cases e;exact h1
theorem au.sl (r:au h v xs F) {x:α} (hx:xs[i]? =some x):∃ b o,v= .sl b o xs.length:=by
 rcases r with⟨rfl,h1,rfl⟩|⟨b,off,F',cs0,rfl,_⟩
 ·have:=(List.getElem?_eq_some_iff.1 hx).1;omega
 ·exact⟨b,off,rfl⟩
end
structure WS (n m:Nat) (h0:AH) (b:Nat) (F0:WF) (h:AH) (x:Wld) (V:WV) (F:WF):Prop where
 w:PW n h b x V F
 mv:Mv m h0 b F0 h F
 hm:m≤h.n
section
variable{P:Program} {n m b i:Nat} {h0 h h' g:AH} {F0 F F':WF} {x x' y:Wld} {V V':WV} {Q:Nat→List AV→AH→Prop} {p:Prog}
theorem PW.ws (w:PW n h b x V F):WS n h.n h b F h x V F:=⟨w,Mv.refl,Nat.le_refl _⟩
theorem WS.to (s:WS n m h0 b F0 h x V F) (w':PW n h' b x' V' F') (k:Kp h h' (b::F.a)) (fr:∀ c∈F'.a,c∈F.a∨m≤c):WS n m h0 b F0 h' x' V' F':=⟨w',s.mv.trans (Mv.of k s.hm fr),Nat.le_trans s.hm k.1⟩
theorem WS.gen (s:WS n m h0 b F0 h x V F):∃ x1,x1=x∧WS n m h0 b F0 h x1 V F:=⟨x,rfl,s⟩
theorem WS.done (s:WS n m h0 b F0 h x V F):sK n m h0 b F0 x h:=⟨V,F,s.w,s.mv⟩
theorem WS.lt (s:WS n m h0 b F0 h x V F):∀ c∈F.a,c < h.n:=s.w.own.2
theorem WS.call (s:WS n m h0 b F0 h x V F) (W:sK n h.n h b F y h'):∃ V' F',WS n m h0 b F0 h' y V' F'∧Kp h h' (b::F.a)∧h.n≤h'.n∧∀ c∈F'.a,c∈F.a∨h.n≤c:=by
 obtain⟨V',F',w',mv'⟩:=W
 have k:=mv'.kp
 exact⟨V',F',⟨w',s.mv.trans (mv'.low s.hm),Nat.le_trans s.hm k.1⟩,k,k.1,mv'.fr⟩
theorem WS.put (s:WS n m h0 b F0 h x V F) (bk:Bk h' b (x'.cv V) 0) (k:Kp h h' [b]) (e0:x'.c.rule.l=x.c.rule.l:=by rfl) (e1:x'.st=x.st:=by rfl) (e2:x'.cache=x.cache:=by rfl) (e3:x'.w.near=x.w.near:=by rfl) (e4:x'.w.far=x.w.far:=by rfl) (e5:x'.w.rest=x.w.rest:=by rfl) (e6:x'.due=x.due:=by rfl) (e7:x'.queue=x.queue:=by rfl) (e8:x'.out=x.out:=by rfl) (e9:x'.tasks=x.tasks:=by rfl) (e10:x'.aH=x.aH:=by rfl):WS n m h0 b F0 h' x' V F:=s.to (s.w.put bk k e0 e1 e2 e3 e4 e5 e6 e7 e8 e9 e10) (k.mono fun c hc=>by rw[List.mem_singleton.1 hc];exact List.mem_cons_self) fun c hc=>.inl hc
theorem WS.set1 (s:WS n m h0 b F0 h x V F) {v:AV} {f:List Nat} {q:Nat} (bk:Bk h' b (x'.cv {V with v1:=v}) 0) (k:Kp h h' [b]) (r:au h' v x'.st f) (o:Own q h' f) (hq:h.n≤q) (e0:x'.c.rule.l=x.c.rule.l:=by rfl) (e2:x'.cache=x.cache:=by rfl) (e3:x'.w.near=x.w.near:=by rfl) (e4:x'.w.far=x.w.far:=by rfl) (e5:x'.w.rest=x.w.rest:=by rfl) (e6:x'.due=x.due:=by rfl) (e7:x'.queue=x.queue:=by rfl) (e8:x'.out=x.out:=by rfl) (e9:x'.tasks=x.tasks:=by rfl) (e10:x'.aH=x.aH:=by rfl):WS n m h0 b F0 h' x' {V with v1:=v} {F with f1:=f}:=by
 have hb:=s.w.bk.1
 have nb:=s.w.nb
 have lt:=s.lt
 have hm:=s.hm
 refine s.to (s.w.VK bk (k.mono fun c hc=>by rw[List.mem_singleton.1 hc];exact List.mem_cons_self) r (o.mono (by omega) fun _ _=>rfl) (fun hc=>by have:=(o.2 b hc).1;omega) (fun c hc=>.inr fun hF=>by have:=(o.2 c hc).1;have:=lt c hF;omega) e0 e2 e3 e4 e5 e6 e7 e8 e9 e10) (k.mono fun c hc=>by rw[List.mem_singleton.1 hc];exact List.mem_cons_self) fun c hc=>?_
 rcases WF.set1 hc with q1|q1
 ·exact .inr (by have:=(o.2 c q1).1;omega)
 ·exact .inl q1
theorem WS.set2 (s:WS n m h0 b F0 h x V F) {v:AV} {f:List Nat} {q:Nat} (bk:Bk h' b (x'.cv {V with v2:=v}) 0) (k:Kp h h' [b]) (r:au h' v x'.cache f) (o:Own q h' f) (hq:h.n≤q) (e0:x'.c.rule.l=x.c.rule.l:=by rfl) (e1:x'.st=x.st:=by rfl) (e3:x'.w.near=x.w.near:=by rfl) (e4:x'.w.far=x.w.far:=by rfl) (e5:x'.w.rest=x.w.rest:=by rfl) (e6:x'.due=x.due:=by rfl) (e7:x'.queue=x.queue:=by rfl) (e8:x'.out=x.out:=by rfl) (e9:x'.tasks=x.tasks:=by rfl) (e10:x'.aH=x.aH:=by rfl):WS n m h0 b F0 h' x' {V with v2:=v} {F with f2:=f}:=by
 have hb:=s.w.bk.1
 have nb:=s.w.nb
 have lt:=s.lt
 have hm:=s.hm
 refine s.to (s.w.ams bk (k.mono fun c hc=>by rw[List.mem_singleton.1 hc];exact List.mem_cons_self) r (o.mono (by omega) fun _ _=>rfl) (fun hc=>by have:=(o.2 b hc).1;omega) (fun c hc=>.inr fun hF=>by have:=(o.2 c hc).1;have:=lt c hF;omega) e0 e1 e3 e4 e5 e6 e7 e8 e9 e10) (k.mono fun c hc=>by rw[List.mem_singleton.1 hc];exact List.mem_cons_self) fun c hc=>?_
 rcases WF.set2 hc with q1|q1
 ·exact .inr (by have:=(o.2 c q1).1;omega)
 ·exact .inl q1
theorem WS.FC (s:WS n m h0 b F0 h x V F) {y:aU} (hx:x.st[i]? =some y) {bb off len:Nat} (ev:V.v1= .sl bb off len):∃ u0 G0 R,EK aU n h h bb (off+i * 2) (y.cs u0) V.v1 x.st i R∧au h u0 y.l G0∧cO n h (G0)∧(∀ c∈G0,c≠bb∧c∈F.f1)∧bb≠b∧n≤bb∧bb < h.n∧bb∈F.f1∧
  (∀ (h':AH) (y':aU) (v0:AV) (H0:List Nat),EK aU n h h' bb (off+i * 2) (y'.cs v0) V.v1 x.st i R→au h' v0 y'.l H0→Own n h' (H0)→(∀ c∈H0,c∈G0∨(c≠b∧c ∉ F.a∧m≤c))→∃ x1 F',x1={x with st:=x.st.set i y'}∧WS n m h0 b F0 h' x1 V F'∧∀ c∈F'.a,c∈F.a∨c∈H0)∧
  (∀ (h':AH) (y':aU),y'.l=y.l→EK aU n h h' bb (off+i * 2) (y'.cs u0) V.v1 x.st i R→∃ x1 F',x1={x with st:=x.st.set i y'}∧WS n m h0 b F0 h' x1 V F'∧∀ c∈F'.a,c∈F.a):=by
 obtain⟨b1,o1,E,Fi,R,ev1,re,oF,el,hd,mR,mF⟩:=s.w.r1.elt s.w.o1 hx
 rw[ev] at ev1
 injection ev1 with e1 e2 e3
 subst e1 e2
 obtain⟨u0,rfl,q0⟩:=re
 have mb:=el.mem
 have hbF:=mR bb mb
 have gen:∀ (h':AH) (y':aU) (v0:AV) (H0:List Nat),EK aU n h h' bb (off+i * 2) (y'.cs v0) V.v1 x.st i R→au h' v0 y'.l H0→Own n h' (H0)→(∀ c∈H0,c∈Fi∨(c≠b∧c ∉ F.a∧m≤c))→∃ x1 F',x1={x with st:=x.st.set i y'}∧WS n m h0 b F0 h' x1 V F'∧∀ c∈F'.a,c∈F.a∨c∈H0:=by
  intro h' y' v0 H0 ek p0 ow fr
  obtain⟨F',w',m',k'⟩:=s.w.anK ek.e (y':=y') (G:=H0) ⟨_,rfl,p0⟩ ow (fun c hc hR=>by
   rcases fr c hc with q|q
   ·exact hd c q hR
   ·exact q.2.1 (F.in1 c (mR c hR))) mR (fun c hc=>by
   rcases fr c hc with q|q
   ·exact⟨fun e=>s.w.n1 (e▸mF c q),.inl (mF c q)⟩
   ·exact⟨q.1,.inr q.2.1⟩) (ek.k.mono fun c hc=>by rw[List.mem_singleton.1 hc];exact hbF)
  refine⟨_,F',rfl,s.to w' k' fun c hc=>?_,m'⟩
  rcases m' c hc with q|q
  ·exact .inl q
  ·rcases fr c q with q|q
   ·exact .inl (F.in1 c (mF c q))
   ·exact .inr q.2.2
 refine⟨u0,Fi,R,⟨el,Kp.refl _ _⟩,q0,oF,fun c hc=>⟨fun e=>hd c hc (e▸mb),mF c hc⟩,fun e=>s.w.n1 (e▸hbF),(el.own.1.2 bb mb).1,el.lt,hbF,gen,fun h' y' e0 ek=>?_⟩
 have dk:∀ c∈Fi,c ∉ [bb]:=fun c hc hX=>hd c hc (List.mem_singleton.1 hX▸mb)
 obtain⟨x1,F',e',w',m'⟩:=gen h' y' u0 Fi ek (by rw[e0];exact aI ek.k q0 fun c hc=>dk c hc) (bC ek.k oF dk).1 fun c hc=>.inl hc
 exact⟨x1,F',e',w',fun c hc=>(m' c hc).elim id fun q=>F.in1 c (mF c q)⟩
theorem WS.iX (s:WS n m h0 b F0 h x V F) {y:Task} (hx:x.tasks[i]? =some y) {bb off len:Nat} (ev:V.v9= .sl bb off len):∃ u0 u1 G0 G1 R,EK Task n h h bb (off+i * 12) (y.cs u0 u1) V.v9 x.tasks i R∧au h u0 y.s.attrs G0∧au h u1 y.hand G1∧cO n h (G0++G1)∧(∀ c∈G0++G1,c≠bb∧c∈F.f9)∧bb≠b∧n≤bb∧bb < h.n∧bb∈F.f9∧
  (∀ (h':AH) (y':Task) (v0 v1:AV) (H0 H1:List Nat),EK Task n h h' bb (off+i * 12) (y'.cs v0 v1) V.v9 x.tasks i R→au h' v0 y'.s.attrs H0→au h' v1 y'.hand H1→Own n h' (H0++H1)→(∀ c∈H0++H1,c∈G0++G1∨(c≠b∧c ∉ F.a∧m≤c))→∃ x1 F',x1={x with tasks:=x.tasks.set i y'}∧WS n m h0 b F0 h' x1 V F'∧∀ c∈F'.a,c∈F.a∨c∈H0++H1)∧
  (∀ (h':AH) (y':Task),y'.s.attrs=y.s.attrs→y'.hand=y.hand→EK Task n h h' bb (off+i * 12) (y'.cs u0 u1) V.v9 x.tasks i R→∃ x1 F',x1={x with tasks:=x.tasks.set i y'}∧WS n m h0 b F0 h' x1 V F'∧∀ c∈F'.a,c∈F.a):=by
 obtain⟨b1,o1,E,Fi,R,ev1,re,oF,el,hd,mR,mF⟩:=s.w.r9.elt s.w.o9 hx
 rw[ev] at ev1
 injection ev1 with e1 e2 e3
 subst e1 e2
 obtain⟨u0,u1,G0,G1,rfl,rfl,q0,q1⟩:=re
 have mb:=el.mem
 have hbF:=mR bb mb
 have gen:∀ (h':AH) (y':Task) (v0 v1:AV) (H0 H1:List Nat),EK Task n h h' bb (off+i * 12) (y'.cs v0 v1) V.v9 x.tasks i R→au h' v0 y'.s.attrs H0→au h' v1 y'.hand H1→Own n h' (H0++H1)→(∀ c∈H0++H1,c∈G0++G1∨(c≠b∧c ∉ F.a∧m≤c))→∃ x1 F',x1={x with tasks:=x.tasks.set i y'}∧WS n m h0 b F0 h' x1 V F'∧∀ c∈F'.a,c∈F.a∨c∈H0++H1:=by
  intro h' y' v0 v1 H0 H1 ek p0 p1 ow fr
  obtain⟨F',w',m',k'⟩:=s.w.Xv ek.e (y':=y') (G:=H0++H1) ⟨_,_,_,_,rfl,rfl,p0,p1⟩ ow (fun c hc hR=>by
   rcases fr c hc with q|q
   ·exact hd c q hR
   ·exact q.2.1 (F.in9 c (mR c hR))) mR (fun c hc=>by
   rcases fr c hc with q|q
   ·exact⟨fun e=>s.w.n9 (e▸mF c q),.inl (mF c q)⟩
   ·exact⟨q.1,.inr q.2.1⟩) (ek.k.mono fun c hc=>by rw[List.mem_singleton.1 hc];exact hbF)
  refine⟨_,F',rfl,s.to w' k' fun c hc=>?_,m'⟩
  rcases m' c hc with q|q
  ·exact .inl q
  ·rcases fr c q with q|q
   ·exact .inl (F.in9 c (mF c q))
   ·exact .inr q.2.2
 refine⟨u0,u1,G0,G1,R,⟨el,Kp.refl _ _⟩,q0,q1,oF,fun c hc=>⟨fun e=>hd c hc (e▸mb),mF c hc⟩,fun e=>s.w.n9 (e▸hbF),(el.own.1.2 bb mb).1,el.lt,hbF,gen,fun h' y' e0 e1 ek=>?_⟩
 have dk:∀ c∈G0++G1,c ∉ [bb]:=fun c hc hX=>hd c hc (List.mem_singleton.1 hX▸mb)
 obtain⟨x1,F',e',w',m'⟩:=gen h' y' u0 u1 G0 G1 ek (by rw[e0];exact aI ek.k q0 fun c hc=>dk c (List.mem_append_left _ hc)) (by rw[e1];exact aI ek.k q1 fun c hc=>dk c (List.mem_append_right _ hc)) (bC ek.k oF dk).1 fun c hc=>.inl hc
 exact⟨x1,F',e',w',fun c hc=>(m' c hc).elim id fun q=>F.in9 c (mF c q)⟩
theorem WS.lX (s:WS n m h0 b F0 h x V F) {y:bN} (hx:x.aH[i]? =some y) {bb off len:Nat} (ev:V.v10= .sl bb off len):∃ u0 G0 R,EK bN n h h bb (off+i * 20) (y.cs u0) V.v10 x.aH i R∧au h u0 y.s.attrs G0∧cO n h (G0)∧(∀ c∈G0,c≠bb∧c∈F.f10)∧bb≠b∧n≤bb∧bb < h.n∧bb∈F.f10∧
  (∀ (h':AH) (y':bN) (v0:AV) (H0:List Nat),EK bN n h h' bb (off+i * 20) (y'.cs v0) V.v10 x.aH i R→au h' v0 y'.s.attrs H0→Own n h' (H0)→(∀ c∈H0,c∈G0∨(c≠b∧c ∉ F.a∧m≤c))→∃ x1 F',x1={x with aH:=x.aH.set i y'}∧WS n m h0 b F0 h' x1 V F'∧∀ c∈F'.a,c∈F.a∨c∈H0)∧
  (∀ (h':AH) (y':bN),y'.s.attrs=y.s.attrs→EK bN n h h' bb (off+i * 20) (y'.cs u0) V.v10 x.aH i R→∃ x1 F',x1={x with aH:=x.aH.set i y'}∧WS n m h0 b F0 h' x1 V F'∧∀ c∈F'.a,c∈F.a):=by
 obtain⟨b1,o1,E,Fi,R,ev1,re,oF,el,hd,mR,mF⟩:=s.w.r10.elt s.w.o10 hx
 rw[ev] at ev1
 injection ev1 with e1 e2 e3
 subst e1 e2
 obtain⟨u0,rfl,q0⟩:=re
 have mb:=el.mem
 have hbF:=mR bb mb
 have gen:∀ (h':AH) (y':bN) (v0:AV) (H0:List Nat),EK bN n h h' bb (off+i * 20) (y'.cs v0) V.v10 x.aH i R→au h' v0 y'.s.attrs H0→Own n h' (H0)→(∀ c∈H0,c∈Fi∨(c≠b∧c ∉ F.a∧m≤c))→∃ x1 F',x1={x with aH:=x.aH.set i y'}∧WS n m h0 b F0 h' x1 V F'∧∀ c∈F'.a,c∈F.a∨c∈H0:=by
  intro h' y' v0 H0 ek p0 ow fr
  obtain⟨F',w',m',k'⟩:=s.w.amO ek.e (y':=y') (G:=H0) ⟨_,rfl,p0⟩ ow (fun c hc hR=>by
   rcases fr c hc with q|q
   ·exact hd c q hR
   ·exact q.2.1 (F.za c (mR c hR))) mR (fun c hc=>by
   rcases fr c hc with q|q
   ·exact⟨fun e=>s.w.n10 (e▸mF c q),.inl (mF c q)⟩
   ·exact⟨q.1,.inr q.2.1⟩) (ek.k.mono fun c hc=>by rw[List.mem_singleton.1 hc];exact hbF)
  refine⟨_,F',rfl,s.to w' k' fun c hc=>?_,m'⟩
  rcases m' c hc with q|q
  ·exact .inl q
  ·rcases fr c q with q|q
   ·exact .inl (F.za c (mF c q))
   ·exact .inr q.2.2
 refine⟨u0,Fi,R,⟨el,Kp.refl _ _⟩,q0,oF,fun c hc=>⟨fun e=>hd c hc (e▸mb),mF c hc⟩,fun e=>s.w.n10 (e▸hbF),(el.own.1.2 bb mb).1,el.lt,hbF,gen,fun h' y' e0 ek=>?_⟩
 have dk:∀ c∈Fi,c ∉ [bb]:=fun c hc hX=>hd c hc (List.mem_singleton.1 hX▸mb)
 obtain⟨x1,F',e',w',m'⟩:=gen h' y' u0 Fi ek (by rw[e0];exact aI ek.k q0 fun c hc=>dk c hc) (bC ek.k oF dk).1 fun c hc=>.inl hc
 exact⟨x1,F',e',w',fun c hc=>(m' c hc).elim id fun q=>F.za c (mF c q)⟩
end
theorem gZ {h:AH} {b:Nat} {cs:List AV} {es:Nat} (a:Bk h b cs es:=by((repeat(first|assumption|with_reducible exact iE|((with_reducible apply TY);(simp only[aO,aV]<;>fail))|with_reducible apply xU|((with_reducible apply kC);exact aP)|((with_reducible apply Kn);(first|rfl|(simp only[aO,aV]<;>fail));exact aP)|with_reducible apply UZ|((with_reducible apply fK);assumption)|((with_reducible apply bR);assumption)|exact oP|exact aP))<;>fail)):Bk h b cs es:=a
theorem rV {h:AH} {b o:Nat} {cs:List AV} (a:At h b o cs:=by((repeat(first|assumption|exact rU (by assumption)|with_reducible exact iF|((with_reducible apply Ua);(simp only[aO,aV]<;>fail))|((with_reducible apply U7);exact aP)|((with_reducible apply U8);(first|rfl|(simp only[aO,aV]<;>fail));exact aP)|with_reducible apply At.push|with_reducible apply U9|((with_reducible apply Va);assumption)|((with_reducible apply VE);assumption)|exact At.toExt (by assumption) aG|exact oP|exact aP))<;>fail)):At h b o cs:=a
theorem FI {h:AH} {b o:Nat} {v:AV} (l:LD h b o v:=by(first|((with_reducible apply Xt);exact Xk rV (by rfl))|((with_reducible apply Xu);exact Gd rV (by rfl))|exact Xl rV (by rfl))):LD h b o v:=l
theorem EO {h:AH} {n b o:Nat} {cs:List AV} (l:LDN h n b o cs:=by(first|((with_reducible apply Xq);exact V6 rV (by decide) uX)|((with_reducible apply Xr);exact V7 rV (by decide) uX)|exact ldw rV (by decide) (by rfl)|exact ldp rV (by decide) uX)):LDN h n b o cs:=l
theorem VG {h h':AH} {b o:Nat} {xs:List AV} (w:WR h b o xs h':=by((repeat(first|exact WW dB|with_reducible apply WU|exact vI gZ dB))<;>fail)):WR h b o xs h':=w
theorem ali {g h:AH} {b:Nat} {k:Blk} (e:Kp g h [b]):Kp g (h.upd b k) [b]:=e.trans (kS)
theorem J3 {g h:AH} {b:Nat} (a:Kp g h [b]:=by((repeat(first|assumption|with_reducible exact Kp.refl _ _|with_reducible apply Kp.push|with_reducible apply ali|((with_reducible apply UJ);exact aP)|((with_reducible apply UK);assumption)|((with_reducible apply TN);assumption)))<;>fail)):Kp g h [b]:=a
section
variable{P:Program} {n m b i:Nat} {h0 h g:AH} {F0 F:WF} {x:Wld} {v0 v1 v2 v3 v4 v5 v6 v7 v8 v9 v10:AV} {Q:Nat→List AV→AH→Prop} {p:Prog}
theorem WS.jY (s:WS n m h0 b F0 h x ⟨v0,v1,v2,v3,v4,v5,v6,v7,v8,v9,v10⟩ F) (x':Wld) {cells:List AV} (hk:∀ x1,x1=x'→WS n m h0 b F0 g x1 ⟨v0,v1,v2,v3,v4,v5,v6,v7,v8,v9,v10⟩ F→p.awp P g Q) (bk:Bk g b cells 0:=by exact gZ) (hc:cells=x'.cv ⟨v0,v1,v2,v3,v4,v5,v6,v7,v8,v9,v10⟩:=by rfl) (k:Kp h g [b]:=by exact J3) (e0:x'.c.rule.l=x.c.rule.l:=by rfl) (e1:x'.st=x.st:=by rfl) (e2:x'.cache=x.cache:=by rfl) (e3:x'.w.near=x.w.near:=by rfl) (e4:x'.w.far=x.w.far:=by rfl) (e5:x'.w.rest=x.w.rest:=by rfl) (e6:x'.due=x.due:=by rfl) (e7:x'.queue=x.queue:=by rfl) (e8:x'.out=x.out:=by rfl) (e9:x'.tasks=x.tasks:=by rfl) (e10:x'.aH=x.aH:=by rfl):p.awp P g Q:=hk x' rfl (s.put (hc▸bk) k e0 e1 e2 e3 e4 e5 e6 e7 e8 e9 e10)
theorem WS.VJ (s:WS n m h0 b F0 h x ⟨v0,v1,v2,v3,v4,v5,v6,v7,v8,v9,v10⟩ F) (x':Wld) {v:AV} {f:List Nat} {q:Nat} {cells:List AV} (r:au g v x'.st f) (o:Own q g f) (hq:h.n≤q) (hk:∀ x1,x1=x'→WS n m h0 b F0 g x1 ⟨v0,v,v2,v3,v4,v5,v6,v7,v8,v9,v10⟩ {F with f1:=f}→p.awp P g Q) (bk:Bk g b cells 0:=by exact gZ) (hc:cells=x'.cv ⟨v0,v,v2,v3,v4,v5,v6,v7,v8,v9,v10⟩:=by rfl) (k:Kp h g [b]:=by exact J3) (e0:x'.c.rule.l=x.c.rule.l:=by rfl) (e2:x'.cache=x.cache:=by rfl) (e3:x'.w.near=x.w.near:=by rfl) (e4:x'.w.far=x.w.far:=by rfl) (e5:x'.w.rest=x.w.rest:=by rfl) (e6:x'.due=x.due:=by rfl) (e7:x'.queue=x.queue:=by rfl) (e8:x'.out=x.out:=by rfl) (e9:x'.tasks=x.tasks:=by rfl) (e10:x'.aH=x.aH:=by rfl):p.awp P g Q:=hk x' rfl (s.set1 (hc▸bk) k r o hq e0 e2 e3 e4 e5 e6 e7 e8 e9 e10)
theorem WS.VI (s:WS n m h0 b F0 h x ⟨v0,v1,v2,v3,v4,v5,v6,v7,v8,v9,v10⟩ F) (x':Wld) {v:AV} {f:List Nat} {q:Nat} {cells:List AV} (r:au g v x'.cache f) (o:Own q g f) (hq:h.n≤q) (hk:∀ x1,x1=x'→WS n m h0 b F0 g x1 ⟨v0,v1,v,v3,v4,v5,v6,v7,v8,v9,v10⟩ {F with f2:=f}→p.awp P g Q) (bk:Bk g b cells 0:=by exact gZ) (hc:cells=x'.cv ⟨v0,v1,v,v3,v4,v5,v6,v7,v8,v9,v10⟩:=by rfl) (k:Kp h g [b]:=by exact J3) (e0:x'.c.rule.l=x.c.rule.l:=by rfl) (e1:x'.st=x.st:=by rfl) (e3:x'.w.near=x.w.near:=by rfl) (e4:x'.w.far=x.w.far:=by rfl) (e5:x'.w.rest=x.w.rest:=by rfl) (e6:x'.due=x.due:=by rfl) (e7:x'.queue=x.queue:=by rfl) (e8:x'.out=x.out:=by rfl) (e9:x'.tasks=x.tasks:=by rfl) (e10:x'.aH=x.aH:=by rfl):p.awp P g Q:=hk x' rfl (s.set2 (hc▸bk) k r o hq e0 e1 e3 e4 e5 e6 e7 e8 e9 e10)
end
section
variable{P:Program} {n m b i:Nat} {h0 h:AH} {F0 F:WF} {x:Wld} {v0 v1 v2 v3 v4 v5 v6 v7 v8 v9 v10:AV} {Q:Nat→List AV→AH→Prop}
end
section
variable{P:Program} {n m b i:Nat} {h0 h:AH} {F0 F:WF} {x:Wld} {v0 v1 v2 v3 v4 v5 v6 v7 v8 v9 v10:AV} {Q:Nat→List AV→AH→Prop}
end
theorem Uv {A B:Prop} (s:A→B:=by(first|(with_reducible first|exact dH|exact dw|exact FY|exact rC|exact jI|exact Et|exact dF|exact Dp|exact Dq|exact Es|exact uV|exact DY|exact vC|exact Dt|exact Dw|exact Du|exact Dv|exact Dr|exact CZ|exact dI|exact Ev|exact uU|exact kK|exact iQ|exact D7|exact D5|exact EB|exact EA|exact Fu|exact Fq|exact D6|exact C9|exact Dc|exact Da|exact Db|exact C8)|((with_reducible apply EW);first|exact yK FI)|((with_reducible apply EU);first|exact yJ EO)|((with_reducible apply ET);first|exact gK (by assumption))|((with_reducible apply EY);first|exact kV (by rfl))|((with_reducible apply FN);first|exact pW (by first|rfl|exact au.cell (by assumption)) (by rfl) VG)|((with_reducible apply EX);first|exact E9 (by rfl))|((with_reducible apply El);first|exact Eu (by rfl))|((with_reducible apply EZ);first|exact fG (by omega)|exact jl (by omega) (by omega))|((with_reducible apply EP);exact Er (by omega) (by omega))|((with_reducible apply ER);exact nD (by decide))|((with_reducible apply ES);exact Fp (by omega) (by decide) (by omega))|((with_reducible apply DU);first|exact DZ oZ)|((with_reducible apply Dl);first|exact yR oZ (by decide) (by rfl))|((with_reducible apply Em);exact EC EO)|((with_reducible apply En);exact ED FI)|((with_reducible apply Ej);exact sx1 (by assumption))|((with_reducible apply Kk);exact J8 gI)|((with_reducible apply Kj);exact xV gI gI)|((with_reducible apply Ki);exact J7 gI gI gI)|(exact kJ (by decide))|(exact kP (by decide)))):A→B:=s
theorem vsw {A B:Prop} (hb:B) (s:B→A:=by((apply it;exact Uv);(repeat(apply it;exact Uv));exact fun x=>x)):A:=s hb
theorem Uu {A B:Prop} (s:A→B:=by(first|(with_reducible first|exact dH|exact dw|exact FY|exact rC|exact jI|exact Et|exact dF|exact Dp|exact Dq|exact Es|exact uV|exact DY|exact vC|exact Dt|exact Dw|exact Du|exact Dv|exact Dr|exact CZ|exact uU|exact kK|exact iQ|exact D7|exact D5|exact EB|exact EA|exact Fu|exact Fq|exact D6|exact C9|exact Dc|exact Da|exact Db|exact C8)|((with_reducible apply EW);first|exact yK FI)|((with_reducible apply EU);first|exact yJ EO)|((with_reducible apply ET);first|exact gK (by assumption))|((with_reducible apply EY);first|exact kV (by rfl))|((with_reducible apply FN);first|exact pW (by first|rfl|exact au.cell (by assumption)) (by rfl) VG)|((with_reducible apply EX);first|exact E9 (by rfl))|((with_reducible apply El);first|exact Eu (by rfl))|((with_reducible apply EZ);first|exact fG (by omega)|exact jl (by omega) (by omega))|((with_reducible apply EP);exact Er (by omega) (by omega))|((with_reducible apply ER);exact nD (by decide))|((with_reducible apply ES);exact Fp (by omega) (by decide) (by omega))|((with_reducible apply DU);first|exact DZ oZ)|((with_reducible apply Dl);first|exact yR oZ (by decide) (by rfl))|((with_reducible apply Em);exact EC EO)|((with_reducible apply En);exact ED FI)|((with_reducible apply Ej);exact sx1 (by assumption))|(exact kJ (by decide))|(exact kP (by decide)))):A→B:=s
theorem vsx {A B:Prop} (hb:B) (s:B→A:=by((apply it;exact Uu);(repeat(apply it;exact Uu));exact fun x=>x)):A:=s hb
end Go.Ab
