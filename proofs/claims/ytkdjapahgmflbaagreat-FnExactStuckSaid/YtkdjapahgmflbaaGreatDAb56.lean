import Derived.Test.YtkdjapahgmflbaaGreatDK5
set_option linter.unusedSimpArgs false
set_option linter.unusedVariables false
namespace Go.Ab
open Go.RowKit
structure EK (α:Type) [Cel α] (n:Nat) (g h:AH) (b o:Nat) (E:List AV) (v:AV) (xs:List α) (i:Nat) (R:List Nat):Prop where
 e:Elt α n h b o E v xs i R
 k:Kp g h [b]
section
variable{α:Type} [Cel α] {P:Program} {n b o i:Nat} {g h h':AH} {E E':List AV} {v:AV} {xs:List α} {R X F:List Nat} {Q:Nat→List AV→AH→Prop} {k:AV→Prog}
theorem EK.st_ {j m:Nat} {y:AV} {ys:List AV} (e:EK α n g h b o E v xs i R) (hx:y.cells? =some ys) (hn:ys.length=m) (s:SP E j ys E') (hk:∀ h2,EK α n g h2 b o E' v xs i R→Kp h h2 [b]→h2.n=h.n→(k (.tup [])).awp P h2 Q):(Prog.op (.st m (.ptr b (o+j)) y) k).awp P h Q:=e.e.st_ hx hn s fun h2 e2 k2 n2=>hk h2 ⟨e2,e.k.trans k2⟩ k2 n2
theorem EK.st0 {m:Nat} {y:AV} {ys:List AV} (e:EK α n g h b o E v xs i R) (hx:y.cells? =some ys) (hn:ys.length=m) (s:SP E 0 ys E') (hk:∀ h2,EK α n g h2 b o E' v xs i R→Kp h h2 [b]→h2.n=h.n→(k (.tup [])).awp P h2 Q):(Prog.op (.st m (.ptr b o) y) k).awp P h Q:=e.st_ (j:=0) hx hn s hk
theorem EK.at_ (e:EK α n g h b o E v xs i R):At h b o E:=e.e.at_
theorem EK.ext (e:EK α n g h b o E v xs i R) (x:Ext h h'):EK α n g h' b o E v xs i R:=⟨e.e.ext x,e.k.AZ x⟩
theorem alB {b o m:Nat} (hk:(k (.int .i64 (m:Int))).awp P h Q):(Prog.op (.len 0 (.sl b o m)) k).awp P h Q:=by
 simp only[Prog.awp,AOp.go,yY,mg];exact hk
theorem dZ {m:Nat} (r:au h (.sl b o m) xs F):b < h.n:=by
 rcases r with⟨e,_,_⟩|⟨b',off,F',cs0,e,_,h1,_⟩
 ·cases e
 ·cases e;exact h1
theorem au.sl (r:au h v xs F) {x:α} (hx:xs[i]? =some x):∃ b o,v= .sl b o xs.length:=by
 rcases r with⟨rfl,h1,rfl⟩|⟨b,off,F',cs0,rfl,_⟩
 ·have:=(List.getElem?_eq_some_iff.1 hx).1;omega
 ·exact⟨b,off,rfl⟩
end
structure WS (n m:Nat) (h0:AH) (b:Nat) (F0:WF) (h:AH) (x:Wld) (V:WV) (F:WF):Prop where
 w:PW n h b x V F
 mv:Mv m h0 b F0 h F
 hm:m≤h.n
section
variable{P:Program} {n m b i:Nat} {h0 h h' g:AH} {F0 F F':WF} {x x' y:Wld} {V V':WV} {Q:Nat→List AV→AH→Prop} {p:Prog}
theorem PW.ws (w:PW n h b x V F):WS n h.n h b F h x V F:=⟨w,Mv.refl,Nat.le_refl _⟩
theorem WS.ext (s:WS n m h0 b F0 h x V F) (e:Ext h h'):WS n m h0 b F0 h' x V F:=⟨s.w.ext e,s.mv.ext s.hm e,Nat.le_trans s.hm e.1⟩
theorem WS.now (s:WS n m h0 b F0 h x V F) (hk:WS n m h0 b F0 g x V F→p.awp P g Q) (e:Ext h g):p.awp P g Q:=hk (s.ext e)
theorem WS.to (s:WS n m h0 b F0 h x V F) (w':PW n h' b x' V' F') (k:Kp h h' (b::F.a)) (fr:∀ c∈F'.a,c∈F.a∨m≤c):WS n m h0 b F0 h' x' V' F':=⟨w',s.mv.trans (Mv.of k s.hm fr),Nat.le_trans s.hm k.1⟩
theorem WS.gen (s:WS n m h0 b F0 h x V F):∃ x1,x1=x∧WS n m h0 b F0 h x1 V F:=⟨x,rfl,s⟩
theorem WS.done (s:WS n m h0 b F0 h x V F):kX n m h0 b F0 x h:=⟨V,F,s.w,s.mv⟩
theorem WS.lt (s:WS n m h0 b F0 h x V F):∀ c∈F.a,c < h.n:=s.w.own.2
theorem WS.call (s:WS n m h0 b F0 h x V F) (W:kX n h.n h b F y h'):∃ V' F',WS n m h0 b F0 h' y V' F'∧Kp h h' (b::F.a)∧h.n≤h'.n∧∀ c∈F'.a,c∈F.a∨h.n≤c:=by
 obtain⟨V',F',w',mv'⟩:=W
 have k:=mv'.kp
 exact⟨V',F',⟨w',s.mv.trans (mv'.low s.hm),Nat.le_trans s.hm k.1⟩,k,k.1,mv'.fr⟩
theorem WS.put (s:WS n m h0 b F0 h x V F) (bk:Bk h' b (x'.cv V) 0) (k:Kp h h' [b]) (e0:x'.c.rule.l=x.c.rule.l:=by rfl) (e1:x'.st=x.st:=by rfl) (e2:x'.cache=x.cache:=by rfl) (e3:x'.w.near=x.w.near:=by rfl) (e4:x'.w.far=x.w.far:=by rfl) (e5:x'.w.rest=x.w.rest:=by rfl) (e6:x'.due=x.due:=by rfl) (e7:x'.queue=x.queue:=by rfl) (e8:x'.out=x.out:=by rfl) (e9:x'.tasks=x.tasks:=by rfl) (e10:x'.aF=x.aF:=by rfl):WS n m h0 b F0 h' x' V F:=s.to (s.w.put bk k e0 e1 e2 e3 e4 e5 e6 e7 e8 e9 e10) (k.mono fun c hc=>by rw[List.mem_singleton.1 hc];exact List.mem_cons_self) fun c hc=>.inl hc
theorem WS.set1 (s:WS n m h0 b F0 h x V F) {v:AV} {f:List Nat} {q:Nat} (bk:Bk h' b (x'.cv {V with v1:=v}) 0) (k:Kp h h' [b]) (r:au h' v x'.st f) (o:Own q h' f) (hq:h.n≤q) (e0:x'.c.rule.l=x.c.rule.l:=by rfl) (e2:x'.cache=x.cache:=by rfl) (e3:x'.w.near=x.w.near:=by rfl) (e4:x'.w.far=x.w.far:=by rfl) (e5:x'.w.rest=x.w.rest:=by rfl) (e6:x'.due=x.due:=by rfl) (e7:x'.queue=x.queue:=by rfl) (e8:x'.out=x.out:=by rfl) (e9:x'.tasks=x.tasks:=by rfl) (e10:x'.aF=x.aF:=by rfl):WS n m h0 b F0 h' x' {V with v1:=v} {F with f1:=f}:=by
 have hb:=s.w.bk.1
 have nb:=s.w.nb
 have lt:=s.lt
 have hm:=s.hm
 refine s.to (s.w.YJ bk (k.mono fun c hc=>by rw[List.mem_singleton.1 hc];exact List.mem_cons_self) r (o.mono (by omega) fun _ _=>rfl) (fun hc=>by have:=(o.2 b hc).1;omega) (fun c hc=>.inr fun hF=>by have:=(o.2 c hc).1;have:=lt c hF;omega) e0 e2 e3 e4 e5 e6 e7 e8 e9 e10) (k.mono fun c hc=>by rw[List.mem_singleton.1 hc];exact List.mem_cons_self) fun c hc=>?_
 rcases WF.set1 hc with q1|q1
 ·exact .inr (by have:=(o.2 c q1).1;omega)
 ·exact .inl q1
theorem WS.set2 (s:WS n m h0 b F0 h x V F) {v:AV} {f:List Nat} {q:Nat} (bk:Bk h' b (x'.cv {V with v2:=v}) 0) (k:Kp h h' [b]) (r:au h' v x'.cache f) (o:Own q h' f) (hq:h.n≤q) (e0:x'.c.rule.l=x.c.rule.l:=by rfl) (e1:x'.st=x.st:=by rfl) (e3:x'.w.near=x.w.near:=by rfl) (e4:x'.w.far=x.w.far:=by rfl) (e5:x'.w.rest=x.w.rest:=by rfl) (e6:x'.due=x.due:=by rfl) (e7:x'.queue=x.queue:=by rfl) (e8:x'.out=x.out:=by rfl) (e9:x'.tasks=x.tasks:=by rfl) (e10:x'.aF=x.aF:=by rfl):WS n m h0 b F0 h' x' {V with v2:=v} {F with f2:=f}:=by
 have hb:=s.w.bk.1
 have nb:=s.w.nb
 have lt:=s.lt
 have hm:=s.hm
 refine s.to (s.w.amA bk (k.mono fun c hc=>by rw[List.mem_singleton.1 hc];exact List.mem_cons_self) r (o.mono (by omega) fun _ _=>rfl) (fun hc=>by have:=(o.2 b hc).1;omega) (fun c hc=>.inr fun hF=>by have:=(o.2 c hc).1;have:=lt c hF;omega) e0 e1 e3 e4 e5 e6 e7 e8 e9 e10) (k.mono fun c hc=>by rw[List.mem_singleton.1 hc];exact List.mem_cons_self) fun c hc=>?_
 rcases WF.set2 hc with q1|q1
 ·exact .inr (by have:=(o.2 c q1).1;omega)
 ·exact .inl q1
theorem WF.alT {f3 f4 f5:List Nat} {c:Nat} (hc:c∈({F with f3:=f3,f4:=f4,f5:=f5}:WF).a):c∈f3++(f4++f5)∨c∈F.a:=by
 rcases WF.ank (F:={F with f3:=f3,f4:=f4}) hc with q|q
 ·exact .inl (List.mem_append_right _ (List.mem_append_right _ q))
 rcases WF.Y8 (F:={F with f3:=f3}) q with q|q
 ·exact .inl (List.mem_append_right _ (List.mem_append_left _ q))
 rcases WF.Ns q with q|q
 ·exact .inl (List.mem_append_left _ q)
 ·exact .inr q
theorem WS.setW (s:WS n m h0 b F0 h x V F) {v3 v4 v5:AV} {f3 f4 f5:List Nat} {q:Nat} (bk:Bk h' b (x'.cv {V with v3:=v3,v4:=v4,v5:=v5}) 0) (k:Kp h h' [b]) (r3:au h' v3 x'.w.near f3) (r4:au h' v4 x'.w.far f4) (r5:au h' v5 x'.w.rest f5) (o:Own q h' (f3++(f4++f5))) (hq:h.n≤q) (e0:x'.c.rule.l=x.c.rule.l:=by rfl) (e1:x'.st=x.st:=by rfl) (e2:x'.cache=x.cache:=by rfl) (e6:x'.due=x.due:=by rfl) (e7:x'.queue=x.queue:=by rfl) (e8:x'.out=x.out:=by rfl) (e9:x'.tasks=x.tasks:=by rfl) (e10:x'.aF=x.aF:=by rfl):WS n m h0 b F0 h' x' {V with v3:=v3,v4:=v4,v5:=v5} {F with f3:=f3,f4:=f4,f5:=f5}:=by
 have hb:=s.w.bk.1
 have nb:=s.w.nb
 have lt:=s.lt
 have hm:=s.hm
 refine s.to (s.w.fA bk k r3 r4 r5 (o.mono (by omega) fun _ _=>rfl) (fun hc=>by have:=(o.2 b hc).1;omega) (fun c hc hF=>by have:=(o.2 c hc).1;have:=lt c hF;omega) e0 e1 e2 e6 e7 e8 e9 e10) (k.mono fun c hc=>by rw[List.mem_singleton.1 hc];exact List.mem_cons_self) fun c hc=>?_
 rcases WF.alT hc with q1|q1
 ·exact .inr (by have:=(o.2 c q1).1;omega)
 ·exact .inl q1
theorem WS.kS (s:WS n m h0 b F0 h x V F) {y:aQ} (hx:x.st[i]? =some y) {bb off len:Nat} (ev:V.v1= .sl bb off len):∃ u0 G0 R,EK aQ n h h bb (off+i * 2) (y.cs u0) V.v1 x.st i R∧au h u0 y.l G0∧bO n h (G0)∧(∀ c∈G0,c≠bb∧c∈F.f1)∧bb≠b∧n≤bb∧bb < h.n∧bb∈F.f1∧
  (∀ (h':AH) (y':aQ) (v0:AV) (H0:List Nat),EK aQ n h h' bb (off+i * 2) (y'.cs v0) V.v1 x.st i R→au h' v0 y'.l H0→Own n h' (H0)→(∀ c∈H0,c∈G0∨(c≠b∧c ∉ F.a∧m≤c))→∃ x1 F',x1={x with st:=x.st.set i y'}∧WS n m h0 b F0 h' x1 V F'∧∀ c∈F'.a,c∈F.a∨c∈H0)∧
  (∀ (h':AH) (y':aQ),y'.l=y.l→EK aQ n h h' bb (off+i * 2) (y'.cs u0) V.v1 x.st i R→∃ x1 F',x1={x with st:=x.st.set i y'}∧WS n m h0 b F0 h' x1 V F'∧∀ c∈F'.a,c∈F.a):=by
 obtain⟨b1,o1,E,Fi,R,ev1,re,oF,el,hd,mR,mF⟩:=s.w.r1.elt s.w.o1 hx
 rw[ev] at ev1
 injection ev1 with e1 e2 e3
 subst e1 e2
 obtain⟨u0,rfl,q0⟩:=re
 have mb:=el.mem
 have hbF:=mR bb mb
 have gen:∀ (h':AH) (y':aQ) (v0:AV) (H0:List Nat),EK aQ n h h' bb (off+i * 2) (y'.cs v0) V.v1 x.st i R→au h' v0 y'.l H0→Own n h' (H0)→(∀ c∈H0,c∈Fi∨(c≠b∧c ∉ F.a∧m≤c))→∃ x1 F',x1={x with st:=x.st.set i y'}∧WS n m h0 b F0 h' x1 V F'∧∀ c∈F'.a,c∈F.a∨c∈H0:=by
  intro h' y' v0 H0 ek p0 ow fr
  obtain⟨F',w',m',k'⟩:=s.w.anV ek.e (y':=y') (G:=H0) ⟨_,rfl,p0⟩ ow (fun c hc hR=>by
   rcases fr c hc with q|q
   ·exact hd c q hR
   ·exact q.2.1 (F.in1 c (mR c hR))) mR (fun c hc=>by
   rcases fr c hc with q|q
   ·exact⟨fun e=>s.w.n1 (e▸mF c q),.inl (mF c q)⟩
   ·exact⟨q.1,.inr q.2.1⟩) (ek.k.mono fun c hc=>by rw[List.mem_singleton.1 hc];exact hbF)
  refine⟨_,F',rfl,s.to w' k' fun c hc=>?_,m'⟩
  rcases m' c hc with q|q
  ·exact .inl q
  ·rcases fr c q with q|q
   ·exact .inl (F.in1 c (mF c q))
   ·exact .inr q.2.2
 refine⟨u0,Fi,R,⟨el,Kp.refl _ _⟩,q0,oF,fun c hc=>⟨fun e=>hd c hc (e▸mb),mF c hc⟩,fun e=>s.w.n1 (e▸hbF),(el.own.1.2 bb mb).1,el.lt,hbF,gen,fun h' y' e0 ek=>?_⟩
 have dk:∀ c∈Fi,c ∉ [bb]:=fun c hc hX=>hd c hc (List.mem_singleton.1 hX▸mb)
 obtain⟨x1,F',e',w',m'⟩:=gen h' y' u0 Fi ek (by rw[e0];exact aL ek.k q0 fun c hc=>dk c hc) (dD ek.k oF dk).1 fun c hc=>.inl hc
 exact⟨x1,F',e',w',fun c hc=>(m' c hc).elim id fun q=>F.in1 c (mF c q)⟩
theorem WS.dL (s:WS n m h0 b F0 h x V F) {y:Task} (hx:x.tasks[i]? =some y) {bb off len:Nat} (ev:V.v9= .sl bb off len):∃ u0 u1 G0 G1 R,EK Task n h h bb (off+i * 12) (y.cs u0 u1) V.v9 x.tasks i R∧au h u0 y.s.attrs G0∧au h u1 y.hand G1∧bO n h (G0++G1)∧(∀ c∈G0++G1,c≠bb∧c∈F.f9)∧bb≠b∧n≤bb∧bb < h.n∧bb∈F.f9∧
  (∀ (h':AH) (y':Task) (v0 v1:AV) (H0 H1:List Nat),EK Task n h h' bb (off+i * 12) (y'.cs v0 v1) V.v9 x.tasks i R→au h' v0 y'.s.attrs H0→au h' v1 y'.hand H1→Own n h' (H0++H1)→(∀ c∈H0++H1,c∈G0++G1∨(c≠b∧c ∉ F.a∧m≤c))→∃ x1 F',x1={x with tasks:=x.tasks.set i y'}∧WS n m h0 b F0 h' x1 V F'∧∀ c∈F'.a,c∈F.a∨c∈H0++H1)∧
  (∀ (h':AH) (y':Task),y'.s.attrs=y.s.attrs→y'.hand=y.hand→EK Task n h h' bb (off+i * 12) (y'.cs u0 u1) V.v9 x.tasks i R→∃ x1 F',x1={x with tasks:=x.tasks.set i y'}∧WS n m h0 b F0 h' x1 V F'∧∀ c∈F'.a,c∈F.a):=by
 obtain⟨b1,o1,E,Fi,R,ev1,re,oF,el,hd,mR,mF⟩:=s.w.r9.elt s.w.o9 hx
 rw[ev] at ev1
 injection ev1 with e1 e2 e3
 subst e1 e2
 obtain⟨u0,u1,G0,G1,rfl,rfl,q0,q1⟩:=re
 have mb:=el.mem
 have hbF:=mR bb mb
 have gen:∀ (h':AH) (y':Task) (v0 v1:AV) (H0 H1:List Nat),EK Task n h h' bb (off+i * 12) (y'.cs v0 v1) V.v9 x.tasks i R→au h' v0 y'.s.attrs H0→au h' v1 y'.hand H1→Own n h' (H0++H1)→(∀ c∈H0++H1,c∈G0++G1∨(c≠b∧c ∉ F.a∧m≤c))→∃ x1 F',x1={x with tasks:=x.tasks.set i y'}∧WS n m h0 b F0 h' x1 V F'∧∀ c∈F'.a,c∈F.a∨c∈H0++H1:=by
  intro h' y' v0 v1 H0 H1 ek p0 p1 ow fr
  obtain⟨F',w',m',k'⟩:=s.w.IX ek.e (y':=y') (G:=H0++H1) ⟨_,_,_,_,rfl,rfl,p0,p1⟩ ow (fun c hc hR=>by
   rcases fr c hc with q|q
   ·exact hd c q hR
   ·exact q.2.1 (F.in9 c (mR c hR))) mR (fun c hc=>by
   rcases fr c hc with q|q
   ·exact⟨fun e=>s.w.n9 (e▸mF c q),.inl (mF c q)⟩
   ·exact⟨q.1,.inr q.2.1⟩) (ek.k.mono fun c hc=>by rw[List.mem_singleton.1 hc];exact hbF)
  refine⟨_,F',rfl,s.to w' k' fun c hc=>?_,m'⟩
  rcases m' c hc with q|q
  ·exact .inl q
  ·rcases fr c q with q|q
   ·exact .inl (F.in9 c (mF c q))
   ·exact .inr q.2.2
 refine⟨u0,u1,G0,G1,R,⟨el,Kp.refl _ _⟩,q0,q1,oF,fun c hc=>⟨fun e=>hd c hc (e▸mb),mF c hc⟩,fun e=>s.w.n9 (e▸hbF),(el.own.1.2 bb mb).1,el.lt,hbF,gen,fun h' y' e0 e1 ek=>?_⟩
 have dk:∀ c∈G0++G1,c ∉ [bb]:=fun c hc hX=>hd c hc (List.mem_singleton.1 hX▸mb)
 obtain⟨x1,F',e',w',m'⟩:=gen h' y' u0 u1 G0 G1 ek (by rw[e0];exact aL ek.k q0 fun c hc=>dk c (List.mem_append_left _ hc)) (by rw[e1];exact aL ek.k q1 fun c hc=>dk c (List.mem_append_right _ hc)) (dD ek.k oF dk).1 fun c hc=>.inl hc
 exact⟨x1,F',e',w',fun c hc=>(m' c hc).elim id fun q=>F.in9 c (mF c q)⟩
theorem WS.mU (s:WS n m h0 b F0 h x V F) {y:bI} (hx:x.aF[i]? =some y) {bb off len:Nat} (ev:V.v10= .sl bb off len):∃ u0 G0 R,EK bI n h h bb (off+i * 20) (y.cs u0) V.v10 x.aF i R∧au h u0 y.s.attrs G0∧bO n h (G0)∧(∀ c∈G0,c≠bb∧c∈F.f10)∧bb≠b∧n≤bb∧bb < h.n∧bb∈F.f10∧
  (∀ (h':AH) (y':bI) (v0:AV) (H0:List Nat),EK bI n h h' bb (off+i * 20) (y'.cs v0) V.v10 x.aF i R→au h' v0 y'.s.attrs H0→Own n h' (H0)→(∀ c∈H0,c∈G0∨(c≠b∧c ∉ F.a∧m≤c))→∃ x1 F',x1={x with aF:=x.aF.set i y'}∧WS n m h0 b F0 h' x1 V F'∧∀ c∈F'.a,c∈F.a∨c∈H0)∧
  (∀ (h':AH) (y':bI),y'.s.attrs=y.s.attrs→EK bI n h h' bb (off+i * 20) (y'.cs u0) V.v10 x.aF i R→∃ x1 F',x1={x with aF:=x.aF.set i y'}∧WS n m h0 b F0 h' x1 V F'∧∀ c∈F'.a,c∈F.a):=by
 obtain⟨b1,o1,E,Fi,R,ev1,re,oF,el,hd,mR,mF⟩:=s.w.r10.elt s.w.o10 hx
 rw[ev] at ev1
 injection ev1 with e1 e2 e3
 subst e1 e2
 obtain⟨u0,rfl,q0⟩:=re
 have mb:=el.mem
 have hbF:=mR bb mb
 have gen:∀ (h':AH) (y':bI) (v0:AV) (H0:List Nat),EK bI n h h' bb (off+i * 20) (y'.cs v0) V.v10 x.aF i R→au h' v0 y'.s.attrs H0→Own n h' (H0)→(∀ c∈H0,c∈Fi∨(c≠b∧c ∉ F.a∧m≤c))→∃ x1 F',x1={x with aF:=x.aF.set i y'}∧WS n m h0 b F0 h' x1 V F'∧∀ c∈F'.a,c∈F.a∨c∈H0:=by
  intro h' y' v0 H0 ek p0 ow fr
  obtain⟨F',w',m',k'⟩:=s.w.am0 ek.e (y':=y') (G:=H0) ⟨_,rfl,p0⟩ ow (fun c hc hR=>by
   rcases fr c hc with q|q
   ·exact hd c q hR
   ·exact q.2.1 (F.rF c (mR c hR))) mR (fun c hc=>by
   rcases fr c hc with q|q
   ·exact⟨fun e=>s.w.n10 (e▸mF c q),.inl (mF c q)⟩
   ·exact⟨q.1,.inr q.2.1⟩) (ek.k.mono fun c hc=>by rw[List.mem_singleton.1 hc];exact hbF)
  refine⟨_,F',rfl,s.to w' k' fun c hc=>?_,m'⟩
  rcases m' c hc with q|q
  ·exact .inl q
  ·rcases fr c q with q|q
   ·exact .inl (F.rF c (mF c q))
   ·exact .inr q.2.2
 refine⟨u0,Fi,R,⟨el,Kp.refl _ _⟩,q0,oF,fun c hc=>⟨fun e=>hd c hc (e▸mb),mF c hc⟩,fun e=>s.w.n10 (e▸hbF),(el.own.1.2 bb mb).1,el.lt,hbF,gen,fun h' y' e0 ek=>?_⟩
 have dk:∀ c∈Fi,c ∉ [bb]:=fun c hc hX=>hd c hc (List.mem_singleton.1 hX▸mb)
 obtain⟨x1,F',e',w',m'⟩:=gen h' y' u0 Fi ek (by rw[e0];exact aL ek.k q0 fun c hc=>dk c hc) (dD ek.k oF dk).1 fun c hc=>.inl hc
 exact⟨x1,F',e',w',fun c hc=>(m' c hc).elim id fun q=>F.rF c (mF c q)⟩
end
theorem iq {h:AH} {b:Nat} {cs:List AV} {es:Nat} (a:Bk h b cs es:=by((repeat(first|assumption|with_reducible exact fD|with_reducible apply jC|((with_reducible apply fP);exact aO)|with_reducible apply BG|((with_reducible apply dX);assumption)|((with_reducible apply bF);assumption)|exact vM|exact aO))<;>fail)):Bk h b cs es:=a
theorem zm {h:AH} {b o:Nat} {cs:List AV} (a:At h b o cs:=by((repeat(first|assumption|exact pI (by assumption)|with_reducible exact jY|((with_reducible apply X5);exact aO)|with_reducible apply At.push|with_reducible apply X6|((with_reducible apply X7);assumption)|((with_reducible apply Ib);assumption)|exact vM|exact aO))<;>fail)):At h b o cs:=a
theorem nS {h:AH} {b o:Nat} {v:AV} (l:LD h b o v:=by(first|((with_reducible apply Zq);exact Zj zm (by rfl))|((with_reducible apply Zr);exact IL zm (by rfl))|exact Zk zm (by rfl))):LD h b o v:=l
theorem tL {h:AH} {n b o:Nat} {cs:List AV} (l:LDN h n b o cs:=by(first|((with_reducible apply anU);exact amP zm (by decide) Mg)|((with_reducible apply Zp);exact YV zm (by decide) Mg)|exact ldw zm (by decide) (by rfl))):LDN h n b o cs:=l
theorem Cc {h h':AH} {b o:Nat} {xs:List AV} (w:WR h b o xs h':=by((repeat(first|exact Y3 aX|with_reducible apply Y2|exact qQ iq aX))<;>fail)):WR h b o xs h':=w
theorem ali {g h:AH} {b:Nat} {k:Blk} (e:Kp g h [b]):Kp g (h.upd b k) [b]:=e.trans (fO)
theorem Gn {g h:AH} {b:Nat} (a:Kp g h [b]:=by((repeat(first|with_reducible exact Kp.refl _ _|with_reducible apply Kp.push|with_reducible apply ali|((with_reducible apply XI);exact aO)|((with_reducible apply WH);assumption)))<;>fail)):Kp g h [b]:=a
section
variable{P:Program} {n m b i:Nat} {h0 h g:AH} {F0 F:WF} {x:Wld} {v0 v1 v2 v3 v4 v5 v6 v7 v8 v9 v10:AV} {Q:Nat→List AV→AH→Prop} {p:Prog}
theorem WS.iR (s:WS n m h0 b F0 h x ⟨v0,v1,v2,v3,v4,v5,v6,v7,v8,v9,v10⟩ F) (x':Wld) {cells:List AV} (hk:∀ x1,x1=x'→WS n m h0 b F0 g x1 ⟨v0,v1,v2,v3,v4,v5,v6,v7,v8,v9,v10⟩ F→p.awp P g Q) (bk:Bk g b cells 0:=by exact iq) (hc:cells=x'.cv ⟨v0,v1,v2,v3,v4,v5,v6,v7,v8,v9,v10⟩:=by rfl) (k:Kp h g [b]:=by exact Gn) (e0:x'.c.rule.l=x.c.rule.l:=by rfl) (e1:x'.st=x.st:=by rfl) (e2:x'.cache=x.cache:=by rfl) (e3:x'.w.near=x.w.near:=by rfl) (e4:x'.w.far=x.w.far:=by rfl) (e5:x'.w.rest=x.w.rest:=by rfl) (e6:x'.due=x.due:=by rfl) (e7:x'.queue=x.queue:=by rfl) (e8:x'.out=x.out:=by rfl) (e9:x'.tasks=x.tasks:=by rfl) (e10:x'.aF=x.aF:=by rfl):p.awp P g Q:=hk x' rfl (s.put (hc▸bk) k e0 e1 e2 e3 e4 e5 e6 e7 e8 e9 e10)
theorem WS.MZ (s:WS n m h0 b F0 h x ⟨v0,v1,v2,v3,v4,v5,v6,v7,v8,v9,v10⟩ F) (x':Wld) {v:AV} {f:List Nat} {q:Nat} {cells:List AV} (r:au g v x'.st f) (o:Own q g f) (hq:h.n≤q) (hk:∀ x1,x1=x'→WS n m h0 b F0 g x1 ⟨v0,v,v2,v3,v4,v5,v6,v7,v8,v9,v10⟩ {F with f1:=f}→p.awp P g Q) (bk:Bk g b cells 0:=by exact iq) (hc:cells=x'.cv ⟨v0,v,v2,v3,v4,v5,v6,v7,v8,v9,v10⟩:=by rfl) (k:Kp h g [b]:=by exact Gn) (e0:x'.c.rule.l=x.c.rule.l:=by rfl) (e2:x'.cache=x.cache:=by rfl) (e3:x'.w.near=x.w.near:=by rfl) (e4:x'.w.far=x.w.far:=by rfl) (e5:x'.w.rest=x.w.rest:=by rfl) (e6:x'.due=x.due:=by rfl) (e7:x'.queue=x.queue:=by rfl) (e8:x'.out=x.out:=by rfl) (e9:x'.tasks=x.tasks:=by rfl) (e10:x'.aF=x.aF:=by rfl):p.awp P g Q:=hk x' rfl (s.set1 (hc▸bk) k r o hq e0 e2 e3 e4 e5 e6 e7 e8 e9 e10)
theorem WS.MX (s:WS n m h0 b F0 h x ⟨v0,v1,v2,v3,v4,v5,v6,v7,v8,v9,v10⟩ F) (x':Wld) {v:AV} {f:List Nat} {q:Nat} {cells:List AV} (r:au g v x'.cache f) (o:Own q g f) (hq:h.n≤q) (hk:∀ x1,x1=x'→WS n m h0 b F0 g x1 ⟨v0,v1,v,v3,v4,v5,v6,v7,v8,v9,v10⟩ {F with f2:=f}→p.awp P g Q) (bk:Bk g b cells 0:=by exact iq) (hc:cells=x'.cv ⟨v0,v1,v,v3,v4,v5,v6,v7,v8,v9,v10⟩:=by rfl) (k:Kp h g [b]:=by exact Gn) (e0:x'.c.rule.l=x.c.rule.l:=by rfl) (e1:x'.st=x.st:=by rfl) (e3:x'.w.near=x.w.near:=by rfl) (e4:x'.w.far=x.w.far:=by rfl) (e5:x'.w.rest=x.w.rest:=by rfl) (e6:x'.due=x.due:=by rfl) (e7:x'.queue=x.queue:=by rfl) (e8:x'.out=x.out:=by rfl) (e9:x'.tasks=x.tasks:=by rfl) (e10:x'.aF=x.aF:=by rfl):p.awp P g Q:=hk x' rfl (s.set2 (hc▸bk) k r o hq e0 e1 e3 e4 e5 e6 e7 e8 e9 e10)
theorem WS.Ij (s:WS n m h0 b F0 h x ⟨v0,v1,v2,v3,v4,v5,v6,v7,v8,v9,v10⟩ F) (x':Wld) {u3 u4 u5:AV} {f3 f4 f5:List Nat} {q:Nat} {cells:List AV} (r3:au g u3 x'.w.near f3) (r4:au g u4 x'.w.far f4) (r5:au g u5 x'.w.rest f5) (o:Own q g (f3++(f4++f5))) (hq:h.n≤q) (hk:∀ x1,x1=x'→WS n m h0 b F0 g x1 ⟨v0,v1,v2,u3,u4,u5,v6,v7,v8,v9,v10⟩ {F with f3:=f3,f4:=f4,f5:=f5}→p.awp P g Q) (bk:Bk g b cells 0:=by exact iq) (hc:cells=x'.cv ⟨v0,v1,v2,u3,u4,u5,v6,v7,v8,v9,v10⟩:=by rfl) (k:Kp h g [b]:=by exact Gn) (e0:x'.c.rule.l=x.c.rule.l:=by rfl) (e1:x'.st=x.st:=by rfl) (e2:x'.cache=x.cache:=by rfl) (e6:x'.due=x.due:=by rfl) (e7:x'.queue=x.queue:=by rfl) (e8:x'.out=x.out:=by rfl) (e9:x'.tasks=x.tasks:=by rfl) (e10:x'.aF=x.aF:=by rfl):p.awp P g Q:=hk x' rfl (s.setW (hc▸bk) k r3 r4 r5 o hq e0 e1 e2 e6 e7 e8 e9 e10)
end
section
variable{P:Program} {n m b i:Nat} {h0 h:AH} {F0 F:WF} {x:Wld} {v0 v1 v2 v3 v4 v5 v6 v7 v8 v9 v10:AV} {Q:Nat→List AV→AH→Prop}
theorem WS.I4 (s:WS n m h0 b F0 h x ⟨v0,v1,v2,v3,v4,v5,v6,v7,v8,v9,v10⟩ F) {a:Itm} {cs:List AV} {G:List Nat} {bytes q:Nat} {k:AV→Prog} (ra:Cel.rep h a cs G) (oa:Own q h G) (hq:n≤q∧m≤q) (hG:∀ c∈G,c≠b∧c ∉ F.a) (hs:(x.queue.length+1) * bytes≤70368744177664) (hs2:x.queue.length+1 < 281474976710656)
  (hk:∀ v h1,Kp h h1 F.f7→Bk h1 b (x.cv ⟨v0,v1,v2,v3,v4,v5,v6,v7,v8,v9,v10⟩) 0→v.cells? =some [v]→(∀ {g:AH} {cells:List AV} {p:Prog} {Q':Nat→List AV→AH→Prop},(∀ x1 F1,x1={x with queue:=x.queue++[a]}→WS n m h0 b F0 g x1 ⟨v0,v1,v2,v3,v4,v5,v6,v,v8,v9,v10⟩ F1→(∀ c∈F1.a,c∈F.a∨c∈G∨h.n≤c)→p.awp P g Q')→Bk g b cells 0→cells=Wld.cv {x with queue:=x.queue++[a]} ⟨v0,v1,v2,v3,v4,v5,v6,v,v8,v9,v10⟩→Kp h1 g [b]→p.awp P g Q')→(k v).awp P h1 Q):(Prog.op (.app 7 bytes v7 (.sl h.n 0 1)) k).awp P (h.push ⟨cs,7,0⟩) Q:=by
 have nb:=s.w.nb
 have hb:=s.w.bk.1
 have hm:=s.hm
 refine s.w.I4 ra (oa.mono hq.1 fun _ _=>rfl) hG (by omega) hs hs2 fun v h1 f k1 bk1 q1 fin=>hk v h1 k1 bk1 q1.cell fun{g cells p Q'} hk' bk hc kk=>?_
 obtain⟨F',w',m',k'⟩:=fin g (hc▸bk) kk
 refine hk' _ F' rfl (s.to w' k' fun c hc=>?_) m'
 rcases m' c hc with a|a|a
 ·exact .inl a
 ·exact .inr (by have:=(oa.2 c a).1;omega)
 ·exact .inr (by omega)
end
section
variable{P:Program} {n m b i:Nat} {h0 h:AH} {F0 F:WF} {x:Wld} {v0 v1 v2 v3 v4 v5 v6 v7 v8 v9 v10:AV} {Q:Nat→List AV→AH→Prop}
theorem WS.zn (s:WS n m h0 b F0 h x ⟨v0,v1,v2,v3,v4,v5,v6,v7,v8,v9,v10⟩ F) {a:bI} {cs:List AV} {G:List Nat} {bytes q:Nat} {k:AV→Prog} (ra:Cel.rep h a cs G) (oa:Own q h G) (hq:n≤q∧m≤q) (hG:∀ c∈G,c≠b∧c ∉ F.a) (hs:(x.aF.length+1) * bytes≤70368744177664) (hs2:x.aF.length+1 < 281474976710656)
  (hk:∀ v h1,Kp h h1 F.f10→Bk h1 b (x.cv ⟨v0,v1,v2,v3,v4,v5,v6,v7,v8,v9,v10⟩) 0→v.cells? =some [v]→(∀ {g:AH} {cells:List AV} {p:Prog} {Q':Nat→List AV→AH→Prop},(∀ x1 F1,x1={x with aF:=x.aF++[a]}→WS n m h0 b F0 g x1 ⟨v0,v1,v2,v3,v4,v5,v6,v7,v8,v9,v⟩ F1→(∀ c∈F1.a,c∈F.a∨c∈G∨h.n≤c)→p.awp P g Q')→Bk g b cells 0→cells=Wld.cv {x with aF:=x.aF++[a]} ⟨v0,v1,v2,v3,v4,v5,v6,v7,v8,v9,v⟩→Kp h1 g [b]→p.awp P g Q')→(k v).awp P h1 Q):(Prog.op (.app 20 bytes v10 (.sl h.n 0 1)) k).awp P (h.push ⟨cs,20,0⟩) Q:=by
 have nb:=s.w.nb
 have hb:=s.w.bk.1
 have hm:=s.hm
 refine s.w.zn ra (oa.mono hq.1 fun _ _=>rfl) hG (by omega) hs hs2 fun v h1 f k1 bk1 q1 fin=>hk v h1 k1 bk1 q1.cell fun{g cells p Q'} hk' bk hc kk=>?_
 obtain⟨F',w',m',k'⟩:=fin g (hc▸bk) kk
 refine hk' _ F' rfl (s.to w' k' fun c hc=>?_) m'
 rcases m' c hc with a|a|a
 ·exact .inl a
 ·exact .inr (by have:=(oa.2 c a).1;omega)
 ·exact .inr (by omega)
end
theorem vsw {A B:Prop} (hb:B) (s:B→A:=by((apply it;(first|(with_reducible first|exact dM|exact dP|exact nN|exact jD|exact dQ|exact vE|exact qx|exact tu|exact vG|exact vH|exact eY|exact lY|exact FX)|((with_reducible apply tQ);first|exact qU nS)|((with_reducible apply tO);first|exact qR tL)|((with_reducible apply tN);first|exact tX (by assumption))|((with_reducible apply yQ);first|exact mX (by rfl))|((with_reducible apply uh);first|exact kU (by first|rfl|exact au.cell (by assumption)) (by rfl) Cc)|((with_reducible apply qM);first|exact nO (by rfl))|((with_reducible apply BA);exact BK tL)|((with_reducible apply qD);exact qE nS)|((with_reducible apply GQ);exact vO lZ lZ)));(repeat(apply it;(first|(with_reducible first|exact dM|exact dP|exact nN|exact jD|exact dQ|exact yg|exact vE|exact qx|exact tu|exact vG|exact vH|exact Bd|exact eY|exact lY|exact qj|exact jW|exact FW)|((with_reducible apply tQ);first|exact qU nS)|((with_reducible apply tO);first|exact qR tL)|((with_reducible apply tN);first|exact tX (by assumption))|((with_reducible apply uh);first|exact kU (by first|rfl|exact au.cell (by assumption)) (by rfl) Cc)|((with_reducible apply qM);first|exact nO (by rfl))|((with_reducible apply yR);exact vX (by omega) (by omega))|((with_reducible apply HV);exact GV (by omega) (by omega))|((with_reducible apply MO);exact BZ (by decide))|((with_reducible apply HY);exact Ih (by omega) (by decide) (by omega))|((with_reducible apply vN);first|exact vP l7)|((with_reducible apply xZ);first|exact zo l7 (by decide) (by rfl))|((with_reducible apply qD);exact qE nS)|((with_reducible apply GQ);exact vO lZ lZ)|(exact qh (by decide))|(exact tJ (by decide)))));exact fun x=>x)):A:=s hb
theorem vsx {A B:Prop} (hb:B) (s:B→A:=by((apply it;(first|(with_reducible first|exact dM|exact dP|exact nN|exact jD|exact dQ|exact yg|exact vE|exact qx|exact tu|exact vG|exact vH|exact Bf|exact lY|exact FU|exact FX)|((with_reducible apply tQ);first|exact qU nS)|((with_reducible apply tO);first|exact qR tL)|((with_reducible apply tN);first|exact tX (by assumption))|((with_reducible apply yQ);first|exact mX (by rfl))|((with_reducible apply uh);first|exact kU (by first|rfl|exact au.cell (by assumption)) (by rfl) Cc)|((with_reducible apply qM);first|exact nO (by rfl))|((with_reducible apply yR);exact jc (by omega))|((with_reducible apply vN);first|exact vP l7)|((with_reducible apply xZ);first|exact zo l7 (by decide) (by rfl))|((with_reducible apply BA);exact BK tL)|((with_reducible apply qD);exact qE nS)));(repeat(apply it;(first|(with_reducible first|exact dM|exact dP|exact Nk|exact nN|exact jD|exact GX|exact dQ|exact yg|exact vE|exact qx|exact tu|exact vG|exact vH|exact Bd|exact Bf|exact lY|exact qj|exact jW|exact FU|exact FW|exact LA)|((with_reducible apply tQ);first|exact qU nS)|((with_reducible apply tO);first|exact qR tL)|((with_reducible apply tN);first|exact tX (by assumption))|((with_reducible apply yQ);first|exact mX (by rfl))|((with_reducible apply uh);first|exact kU (by first|rfl|exact au.cell (by assumption)) (by rfl) Cc)|((with_reducible apply qM);first|exact nO (by rfl))|((with_reducible apply yR);first|exact jc (by omega)|exact vX (by omega) (by omega))|((with_reducible apply vN);first|exact vP l7)|((with_reducible apply xZ);first|exact zo l7 (by decide) (by rfl))|((with_reducible apply BA);exact BK tL)|((with_reducible apply qD);exact qE nS)|(exact qh (by decide)))));exact fun x=>x)):A:=s hb
section
theorem amY {P:Program} {h:AH} {Q:Nat→List AV→AH→Prop} {k:AV→Prog} {B:Prop} {n:Nat} {a x:AV} (y:B→(Prog.op (.idx n a x) k).awp P h Q):B→(Prog.op (.idx n a x) k).awp P h Q:=y
theorem ao4 {A B:Prop} (hb:B) (s:B→A:=by first|with_reducible exact aW|with_reducible exact alB|((with_reducible apply amY);first|exact mK (by omega)|exact Bp (by omega) (by omega))):A:=s hb
theorem bkE {n:Nat} {h:AH} {b:Nat} {x:Wld} {v0 v1 v2 v3 v4 v5 v6 v7 v8 v9 v10:AV} {F:WF} (w:PW n h b x ⟨v0,v1,v2,v3,v4,v5,v6,v7,v8,v9,v10⟩ F):Bk h b [.int .i64 x.c.eU,.int .i64 x.c.wait,.int .i64 x.c.budget,.int .i64 x.c.cache,.int .i64 x.c.queue,.int .i64 x.c.rate,.int .i64 x.c.bn,.int .i64 x.c.rule.kind,.int .i64 x.c.rule.n,.str x.c.rule.key,.str x.c.rule.text,v0,.int .i64 x.time,.bool x.shut,v1,.int .i64 x.bS,.int .i64 x.b.rate,.int .i64 x.b.bn,.int .i64 x.b.tokens,.int .i64 x.b.at_,v2,.int .i64 x.used,.int .i64 x.w.now,v3,v4,v5,v6,v7,v8,v9,v10,.int .i64 x.next] 0:=w.bk
end
end Go.Ab
