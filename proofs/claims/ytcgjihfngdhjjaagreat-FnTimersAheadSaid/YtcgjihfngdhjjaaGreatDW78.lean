import Derived.Test.YtcgjihfngdhjjaaGreatDW60
import Derived.Test.YtcgjihfngdhjjaaGreatDW70
import Derived.Test.YtcgjihfngdhjjaaGreatDKW2
import Derived.Test.YtcgjihfngdhjjaaGreatDK5
import Derived.Test.YtcgjihfngdhjjaaGreatDW88
section
set_option linter.unusedSimpArgs false
set_option linter.unusedVariables false
set_option maxHeartbeats 600000
namespace Go.Proofs.YtcgjihfngdhjjaaGreat
open Go Go.Ab
attribute[local irreducible] dD
section
def O5 (x0 x1:AV):Prog:=Lf 26 x0 fun a=>Ix 3 a (.int .i64 0) fun a=>Ld 3 a fun a=>.op (.alloc [.int .i64 0,.int .i64 0,.int .i64 0]) fun b=>.op (.st 3 b a) fun _=>.op (.aS 3 0 [] []) fun a=>Lf 26 x0 fun c=>.op (.slc 3 c (some (.int .i64 1)) none none) fun c=>.op (.app 3 24 a c) fun a=>Sf 26 x0 a fun _=>Lf 29 x0 fun a=>Lg 1 b fun c=>Lg 0 b fun d=>Lf 30 x0 fun e=>Ln 0 e fun e=>.op (.build ji [(0,1,.int .i64 2),(8,1,c),(9,1,d),(11,1,e)]) fun c=>Ix 12 a x1 fun a=>.op (.st 12 a c) fun _=>Lf 30 x0 fun a=>Lg 1 b fun c=>Lg 0 b fun b=>.op (.bZ x0) fun d=>.op (.fad 22 d) fun d=>Lg 0 d fun d=>Lf 12 x0 fun e=>.op (.build jR [(0,1,.int .i64 2),(1,1,x1),(8,1,c),(9,1,b),(16,1,d),(17,1,e),(18,1,.int .i64 (-1)),(19,1,.int .i64 (-1))]) fun b=>.op (.aS 20 1 jR [(0,20,b)]) fun b=>.op (.app 20 168 a b) fun a=>Sf 30 x0 a fun _=>Lf 12 x0 fun a=>Bn .add a (.int .i64 1) fun a=>Sf 12 x0 a fun _=>.fin []
theorem abt (x0 x1:AV):CC Tryz.prog JY [x0,x1] (O5 x0 x1):=cc Tryz.func91 [] (fun r=>if r=2 then[(0,[]),(1,[]),(2,[]),(3,[]),(4,[]),(5,[]),(6,[]),(7,[]),(8,[]),(9,[]),(10,[]),(11,[]),(12,[]),(13,[]),(14,[]),(15,[]),(16,[])] else if r=3 then[(0,[]),(1,[]),(2,[]),(3,[]),(4,[]),(5,[]),(6,[]),(7,[]),(8,[]),(9,[]),(10,[]),(11,[]),(12,[]),(13,[]),(14,[]),(15,[]),(16,[]),(17,[]),(18,[]),(19,[]),(20,[]),(21,[]),(22,[]),(23,[]),(24,[])] else[])
end
theorem ahx {x:Wld} {k:Nat} {t:Ab.Timer} {rest:List Ab.Timer} (hd:x.due=t::rest):mE x k={x with due:=rest,tasks:=x.tasks.set k ⟨2,0,iA,t.trace,t.id,[],x.aF.length⟩,aF:=x.aF++[⟨2,k,iA,t.trace,t.id,0,false,false,0,0,0,x.w.now,x.time,-1,-1⟩],time:=wr (x.time+1)}:=by
 unfold mE;rw[hd]
theorem aa8 {h:AH} {n b k:Nat} {x:Wld} {V:WV} {F:WF} {t:Ab.Timer} {rest:List Ab.Timer} (w:PW n h b x V F) (hn:n≤h.n) (hd:x.due=t::rest) (hk:k < x.tasks.length) (hs:Sz.sz x≤67108864):bq Tryz.prog JY [.ptr b 0,.int .i64 (k:Int)] h fun v h'=>v= .tup []∧qy n h.n h b F (mE x k) h':=by
 rw[wsz] at hs
 rw[ahx hd]
 have hdl:x.due.length=rest.length+1:=by rw[hd];rfl
 obtain⟨tk,htk,-,-⟩:=aU hk
 have bk:Bk h b [AV.int .i64 x.c.dK,AV.int .i64 x.c.wait,AV.int .i64 x.c.budget,AV.int .i64 x.c.cache,AV.int .i64 x.c.queue,AV.int .i64 x.c.rate,AV.int .i64 x.c.aZ,AV.int .i64 x.c.rule.kind,AV.int .i64 x.c.rule.n,AV.str x.c.rule.key,AV.str x.c.rule.text,V.v0,AV.int .i64 x.time,AV.bool x.shut,V.v1,AV.int .i64 x.bg,AV.int .i64 x.b.rate,AV.int .i64 x.b.aZ,AV.int .i64 x.b.tokens,AV.int .i64 x.b.at_,V.v2,AV.int .i64 x.used,AV.int .i64 x.w.now,V.v3,V.v4,V.v5,V.v6,V.v7,V.v8,V.v9,V.v10,AV.int .i64 x.next] 0:=w.bk
 have hb:=bk.1
 have lt:=w.own.2
 have h6:∀ c∈F.f6,c < h.n:=w.l6.2
 refine abt _ _ ?_
 unfold O5
 (repeat' first|refine vs ?_|(with_reducible refine bA ?_)|fail)
 refine dw (i:=0) w.r6 (x:=t) (by rw[hd];rfl) rfl ?_
 rintro bt ot _ _ a ⟨rfl,rfl⟩ _
 (repeat' first|refine vs ?_|(with_reducible refine bA ?_)|fail)
 obtain⟨u1,u2,B,E1,E2,eF,-,-,p2,t2,-,s2⟩:=w.r6.cut (P:=Tryz.prog) w.o6 (show 1≤x.due.length by omega)
 rw[hd,List.drop_succ_cons,List.drop_zero] at p2
 refine M7 (s2 _ _ (fun c hc=>(aI:Ext h _).2 c (h6 c (by rw[eF];simp[hc]))) ?_)
 refine DT (ys:=rest) (aB:ah _ u2 rest (B++E2)) (zn p2 _) (Nat.le_refl _) rfl (by omega) ?_
 intro v1 h1 G1 e1 q1 o1
 have n1:=e1.1;(try simp only[aJ,aN] at n1)
 (repeat' first|refine vs ?_|(with_reducible refine bA ?_)|fail)
 refine ajF (R:=fun h2=>Bk h2 b [AV.int .i64 x.c.dK,AV.int .i64 x.c.wait,AV.int .i64 x.c.budget,AV.int .i64 x.c.cache,AV.int .i64 x.c.queue,AV.int .i64 x.c.rate,AV.int .i64 x.c.aZ,AV.int .i64 x.c.rule.kind,AV.int .i64 x.c.rule.n,AV.str x.c.rule.key,AV.str x.c.rule.text,V.v0,AV.int .i64 x.time,AV.bool x.shut,V.v1,AV.int .i64 x.bg,AV.int .i64 x.b.rate,AV.int .i64 x.b.aZ,AV.int .i64 x.b.tokens,AV.int .i64 x.b.at_,V.v2,AV.int .i64 x.used,AV.int .i64 x.w.now,V.v3,V.v4,V.v5,v1,V.v7,V.v8,V.v9,V.v10,AV.int .i64 x.next] 0∧Bk h2 h.n [.int .i64 t.id,.int .i64 t.trace,.int .i64 t.at_] 0∧Kp h h2 [b]∧ah h2 v1 rest G1∧Own (h.n+1) h2 G1∧h1.n≤h2.n) ⟨aO,aO,?_,aB,aY,by simp⟩ ?_
 ·exact(bQ:Kp h h1 [b]).qX (by simp) _
 rintro h2 ⟨b2,bt2,k2,q2,o2,n2⟩
 have f1:∀ c∈G1,h.n+1≤c:=fun c hc=>(o2.2 c hc).1
 have fa:∀ c∈G1,c ∉ F.a:=fun c hc hm=>by have:=lt c hm;have:=f1 c hc;omega
 have w1:PW n h2 b {x with due:=rest} {V with v6:=v1} {F with f6:=G1}:=w.Xz b2 (k2.mono fun c hc=>by rw[List.mem_singleton.1 hc];exact List.mem_cons_self) q2 (o2.mono (by omega) fun _ _=>rfl) (fun hm=>by have:=f1 _ hm;omega) fun c hc=>.inr (fa c hc)
 have mv1:Mv h.n h b F h2 {F with f6:=G1}:=Mv.ofX k2 (fun c hc=>.inl (List.mem_singleton.1 hc)) (Nat.le_refl _) fun c hc=>(WF.Yf hc).elim (fun q=>.inr (by have:=f1 c q;omega)) .inl
 have alz:ah h2 V.v10 x.aF F.f10:=w1.r10
 (repeat' first|refine vs ?_|fail)
 obtain⟨bb,off,_,Fi,R,ev,⟨y0,y1,H0,H1,rfl,rfl,-,-⟩,oF,el,hdj,mR,mF⟩:=w1.r9.elt w1.o9 htk
 have ev:V.v9= .sl bb off x.tasks.length:=ev
 have hbb:=el.own.2 bb el.mem
 have hF9:∀ c∈F.f9,c < h.n:=w.l9.2
 have mR9:∀ c∈R,c∈F.f9:=mR
 have hbh:bb < h.n:=hF9 bb (mR9 bb el.mem)
 have ak4:b≠bb:=fun e=>w.n9 (e▸mR9 bb el.mem)
 have el:Elt Task n h2 bb (off+k * 12) [.int .i64 tk.op,.int .i64 tk.pc,.int .i64 tk.s.trace,.int .i64 tk.s.id,.int .i64 tk.s.start,.int .i64 tk.s.fin,.bool tk.s.err,y0,.int .i64 tk.trace,.int .i64 tk.stamp,y1,.int .i64 tk.h] V.v9 x.tasks k R:=el
 rw[ev]
 refine zf hk ?_
 have sp:SP [.int .i64 tk.op,.int .i64 tk.pc,.int .i64 tk.s.trace,.int .i64 tk.s.id,.int .i64 tk.s.start,.int .i64 tk.s.fin,.bool tk.s.err,y0,.int .i64 tk.trace,.int .i64 tk.stamp,y1,.int .i64 tk.h] 0 [.int .i64 2,.int .i64 0,.int .i64 0,.int .i64 0,.int .i64 0,.int .i64 0,.bool false,.aA,.int .i64 t.trace,.int .i64 t.id,.aA,.int .i64 x.aF.length] [.int .i64 2,.int .i64 0,.int .i64 0,.int .i64 0,.int .i64 0,.int .i64 0,.bool false,.aA,.int .i64 t.trace,.int .i64 t.id,.aA,.int .i64 x.aF.length]:=bV
 refine Elt.st0 el rfl rfl sp ?_
 intro h3 el3 k3 n3
 obtain⟨F2,w2,m2,kk2⟩:=w1.YL (y':=⟨2,0,iA,t.trace,t.id,[],x.aF.length⟩) (G:=[]) el3 ⟨.aA,.aA,[],[],rfl,rfl,ah.aA,ah.aA⟩ Own.nil (by simp) mR (by simp) (k3.mono fun c hc=>by rw[List.mem_singleton.1 hc];exact mR bb el.mem)
 have w2:PW n h3 b {x with due:=rest,tasks:=x.tasks.set k ⟨2,0,iA,t.trace,t.id,[],x.aF.length⟩} {V with v6:=v1} F2:=w2
 have mv2:=mv1.trans (Mv.of kk2 (by omega) fun c hc=>(m2 c hc).elim .inl fun q=>absurd q List.not_mem_nil)
 have bt3:=bI k3 bt2 (by simp;omega)
 have b3:=bI k3 b2 (by simpa using ak4)
 have r10:ah h3 V.v10 x.aF F2.f10:=w2.r10
 (repeat' first|refine vs ?_|(with_reducible refine bA ?_)|fail)
 refine w2.xQ (a:=⟨2,k,iA,t.trace,t.id,0,false,false,0,0,0,x.w.now,x.time,-1,-1⟩) (G:=[]) ⟨.aA,rfl,ah.aA⟩ Own.nil (by simp) (by omega) ?_ ?_ ?_
 ·show(x.aF.length+1) * 168≤_
  omega
 ·show x.aF.length+1 < _
  omega
 intro v4 h4 f4 k4 bk4 c4 ak8
 have bk4:Bk h4 b [AV.int .i64 x.c.dK,AV.int .i64 x.c.wait,AV.int .i64 x.c.budget,AV.int .i64 x.c.cache,AV.int .i64 x.c.queue,AV.int .i64 x.c.rate,AV.int .i64 x.c.aZ,AV.int .i64 x.c.rule.kind,AV.int .i64 x.c.rule.n,AV.str x.c.rule.key,AV.str x.c.rule.text,V.v0,AV.int .i64 x.time,AV.bool x.shut,V.v1,AV.int .i64 x.bg,AV.int .i64 x.b.rate,AV.int .i64 x.b.aZ,AV.int .i64 x.b.tokens,AV.int .i64 x.b.at_,V.v2,AV.int .i64 x.used,AV.int .i64 x.w.now,V.v3,V.v4,V.v5,v1,V.v7,V.v8,V.v9,V.v10,AV.int .i64 x.next] 0:=bk4
 have hb4:=bk4.1
 (repeat' first|refine vs ?_|(with_reducible refine bA ?_)|(with_reducible refine gQ ?_)|fail)
 obtain⟨F3,w3,m3,kk3⟩:=ak8 (h4.upd b ⟨_,0,0⟩) (gG hb4) gU
 have w3:PW n (h4.upd b ⟨_,0,0⟩) b {x with due:=rest,tasks:=x.tasks.set k ⟨2,0,iA,t.trace,t.id,[],x.aF.length⟩,aF:=x.aF++[⟨2,k,iA,t.trace,t.id,0,false,false,0,0,0,x.w.now,x.time,-1,-1⟩]} {V with v6:=v1,v10:=v4} F3:=w3
 have w4:=w3.put (x':={x with due:=rest,tasks:=x.tasks.set k ⟨2,0,iA,t.trace,t.id,[],x.aF.length⟩,aF:=x.aF++[⟨2,k,iA,t.trace,t.id,0,false,false,0,0,0,x.w.now,x.time,-1,-1⟩],time:=wr (x.time+1)}) (h':=(h4.upd b ⟨_,0,0⟩).upd b ⟨_,0,0⟩) (gG (by simpa using hb4)) gU
 refine⟨rfl,_,rfl,rfl,_,F3,w4,mv2.trans (Mv.of (kk3.trans (gU.mono fun c hc=>by rw[List.mem_singleton.1 hc];exact List.mem_cons_self)) (by omega) fun c hc=>?_)⟩
 rcases m3 c hc with q|q|q
 ·exact .inl q
 ·cases q
 ·exact .inr (by omega)
end Go.Proofs.YtcgjihfngdhjjaaGreat
end
section
set_option linter.unusedSimpArgs false
set_option linter.unusedVariables false
set_option maxHeartbeats 2000000
namespace Go.Proofs.YtcgjihfngdhjjaaGreat
open Go Go.Ab
attribute[local irreducible] dD
section
def O6 (x0 x1 x2:AV):Prog:=.op (.box x2) fun a=>Ld 6 a fun b=>.op (.bZ x0) fun c=>.op (.fad 22 c) fun c=>.op (.fad 0 c) fun c=>.op (.ld1 c) fun d=>.op (.bZ x0) fun e=>.op (.fad 12 e) fun e=>.op (.ld1 e) fun f=>.op (.alloc jR) fun i=>Cl kH [b] fun b=>.chk (.ld1 c) d (.chk (.ld1 e) f (.chk (.alloc jR) i (.op (.build jR [(0,1,.int .i64 1),(1,1,x1),(2,6,b),(16,1,d),(17,1,f),(18,1,.int .i64 (-1)),(19,1,.int .i64 (-1))]) fun b=>.op (.st 20 i b) fun _=>.op (.bZ x0) fun b=>.op (.fad 0 b) fun b=>Ld 12 b fun b=>Ld 6 a fun c=>Cl Bp [b,c] fun b=>.op (.una .not b) fun b=>.scope (.ite b (Sg 10 i (.int .i64 5) fun _=>Lf 12 x0 fun a=>Sg 18 i a fun _=>Lf 12 x0 fun a=>Sg 19 i a fun _=>.leaf 0 []) (.op (.bZ x0) fun b=>.op (.fad 29 b) fun b=>.op (.ld1 b) fun c=>Ld 6 a fun a=>.op (.bZ x0) fun d=>.op (.fad 30 d) fun d=>.op (.ld1 d) fun e=>Ln 0 e fun f=>Cl kH [a] fun a=>.chk (.ld1 b) c (.chk (.ld1 d) e (.op (.build ji [(0,1,.int .i64 1),(2,6,a),(11,1,f)]) fun a=>Ix 12 c x1 fun b=>.op (.st 12 b a) fun _=>.leaf 0 [])))) (fun _=>Lf 30 x0 fun a=>Ld 20 i fun b=>.op (.aS 20 1 jR [(0,20,b)]) fun b=>.op (.app 20 168 a b) fun a=>Sf 30 x0 a fun _=>Lf 12 x0 fun a=>Bn .add a (.int .i64 1) fun a=>Sf 12 x0 a fun _=>.fin []) fun a b=>aC a 1 (.leaf 1 b) .bad)))
theorem abu (x0 x1 x2:AV):CC Tryz.prog JZ [x0,x1,x2] (O6 x0 x1 x2):=cc Tryz.func94 [0,6] (fun r=>if r=1 then[(0,[]),(1,[]),(3,[]),(4,[]),(5,[]),(6,[]),(7,[]),(8,[]),(9,[]),(10,[]),(11,[]),(13,[]),(2,[7,11,13]),(12,[]),(14,[])] else if r=2 then[(0,[]),(1,[]),(2,[]),(3,[]),(4,[]),(5,[]),(6,[])] else if r=6 then[(0,[]),(1,[]),(2,[]),(3,[]),(4,[]),(5,[]),(7,[]),(8,[]),(9,[]),(10,[]),(11,[]),(6,[3,10]),(12,[]),(13,[]),(14,[])] else if r=7 then[(0,[]),(1,[]),(2,[]),(3,[]),(4,[]),(5,[]),(6,[]),(7,[]),(8,[]),(9,[]),(10,[])] else[])
end
theorem ahh {x:Wld} {k:Nat} {s:Span} (h:fits x.c s):pF x k s={x with tasks:=x.tasks.set k ⟨1,0,s,0,0,[],x.aF.length⟩,aF:=x.aF++[⟨1,k,s,0,0,0,false,false,0,0,0,x.w.now,x.time,-1,-1⟩],time:=wr (x.time+1)}:=if_pos (fK h)
theorem ahi {x:Wld} {k:Nat} {s:Span} (h: ¬ fits x.c s):pF x k s={x with aF:=x.aF++[⟨1,k,s,0,0,5,false,false,0,0,0,x.w.now,x.time,x.time,x.time⟩],time:=wr (x.time+1)}:=if_neg (by rw[gM h];decide)
theorem aa9 {h:AH} {n b k:Nat} {x:Wld} {V:WV} {F:WF} {s:Span} {vS:AV} {Fs:List Nat} (w:PW n h b x V F) (hn:n≤h.n) (hk:k < x.tasks.length) (ok:Cel.ok s) (hs:Sz.sz x≤67108864) (hss:Sz.sz s≤67108864) (rs:ah h vS s.attrs Fs) (hFs:∀ c∈Fs,c < n):bq Tryz.prog JZ [.ptr b 0,.int .i64 (k:Int),.agg (s.cs vS)] h fun v h'=>v= .tup []∧qy n h.n h b F (pF x k s) h':=by
 obtain⟨v0,v1,v2,v3,v4,v5,v6,v7,v8,v9,v10⟩:=V
 rw[wsz] at hs
 obtain⟨tk,htk,-,-⟩:=aU hk
 obtain⟨b9,o9,e9⟩:=w.r9.sl htk;have e9:v9= .sl b9 o9 x.tasks.length:=e9;subst e9;have l9:b9 < _:=iB w.r9
 have bk:=bkE w
 have hb:=bk.1
 have lt:=w.own.2
 have r10:ah h v10 x.aF F.f10:=w.r10
 have s0:=w.ws
 obtain⟨gY,iq,lC,mM,nY,et,mK,nR,lS,lQ,nW,nU,nV,nZ,jX,jy⟩:=s0.iJ (bb:=b9) (off:=o9) htk rfl;have et:EK Task _ _ _ b9 (o9+k * 12) [.int .i64 tk.op,.int .i64 tk.pc,.int .i64 tk.s.trace,.int .i64 tk.s.id,.int .i64 tk.s.start,.int .i64 tk.s.fin,.bool tk.s.err,gY,.int .i64 tk.trace,.int .i64 tk.stamp,iq,.int .i64 tk.h] _ _ _ _:=et
 have hfs:∀ c∈Fs,c < h.n:=rs.lt
 have alO:b ∉ Fs:=fun hm=>by have:=hFs b hm;have:=w.nb;omega
 refine abu _ _ _ ?_
 unfold O6
 (repeat' first|refine vsx ?_|(with_reducible refine bA ?_)|fail)
 refine aL (qC s hss _ _ _ ⟨_,rfl,aB⟩) ?_
 rintro _ h1 ⟨e1,_,G1,rfl,⟨z1,rfl,q1⟩,o1⟩
 have n1:=e1.1;(try simp only[aJ,aN] at n1)
 have oG:∀ c∈G1,h.n+1+1≤c:=fun c hc=>by have:=(o1.2 c hc).1;simpa using this
 have nG1:h.n+1 ∉ G1:=fun hm=>by have:=oG _ hm;omega
 have lG:=q1.lt
 by_cases hf:fits x.c s
 ·rw[ahh hf]
  (repeat' first|refine vsx ?_|(with_reducible refine bA ?_)|((with_reducible refine iN ?_);refine iM aO ?_)|((with_reducible refine aG Bp ?_);(refine aQ (SV (c:=x.c) (s:=s) (F:=Fs) ok hss aB) ?_;rw[fK hf]))|fail)
  refine aL (qC s hss _ _ _ ⟨_,rfl,(aB:ah _ vS s.attrs Fs)⟩) ?_
  rintro _ h2 ⟨e2,_,G2,rfl,⟨z2,rfl,q2⟩,o2⟩
  have n2:=e2.1;(try simp only[aJ,aN] at n2)
  have oG2:∀ c∈G2,h1.n≤c:=fun c hc=>by have:=(o2.2 c hc).1;(try simp only[aJ,aN] at this);omega
  (repeat' first|refine vsx ?_|refine bP ?_|fail)
  refine EK.st0 (et.ext aI) (by rfl) (by rfl) bV ?_
  intro h4 et k4 n4
  have n4':=n4
  (try simp only[aJ,aN] at n4')
  have nb2:b9 ∉ G2:=fun hm=>by have:=oG2 _ hm;omega
  have nb1:b9 ∉ G1:=fun hm=>by have:=oG _ hm;omega
  obtain⟨x1,F1,e1x,s1,m1⟩:=jX h4 ⟨1,0,s,0,0,[],x.aF.length⟩ z2 .aA G2 [] et (aK k4 q2 (gJ nb2)) ah.aA (by rw[List.append_nil];exact(bX k4 ⟨o2,q2.lt⟩ (gJ nb2)).1.mono (by simp;omega) fun _ _=>rfl) (fun c hc=>by
   rw[List.append_nil] at hc
   have:=oG2 c hc
   exact .inr ⟨by omega,fun hF=>by have:=lt c hF;omega,by omega⟩)
  rw[List.append_nil] at m1
  have bk4:=bkE s1.w
  have q1':ah h4 z1 s.attrs G1:=aK k4 (aB:ah h2 z1 s.attrs G1) (gJ nb1)
  have o1':Own (h.n+1+1) h4 G1:=(bX k4 ⟨(aY:Own (h.n+1+1) h2 G1),fun c hc=>by have:=lG c hc;omega⟩ (gJ nb1)).1
  (repeat' first|refine vsy ?_|(with_reducible refine bA ?_)|fail)
  have hd1:x1.aF.length≤67108864:=by rw[e1x];show x.aF.length≤_;omega
  (repeat' first|refine vsx ?_|fail)
  refine s1.xQ (a:=⟨1,k,s,0,0,0,false,false,0,0,0,x.w.now,x.time,-1,-1⟩) (G:=G1) (q:=h.n) ⟨_,rfl,q1'⟩ (o1'.mono (by omega) fun _ _=>rfl) ⟨by omega,Nat.le_refl _⟩ (fun c hc=>⟨by have:=oG c hc;omega,fun hm=>by
   rcases m1 c hm with a|a
   ·have:=lt c a;have:=oG c hc;omega
   ·have:=oG2 c a;have:=lG c hc;omega⟩) (by omega) (by omega) ?_
  intro v' h6 k6 b6 cv6 fin
  have bk6:Bk h6 b [AV.int .i64 x1.c.dK,AV.int .i64 x1.c.wait,AV.int .i64 x1.c.budget,AV.int .i64 x1.c.cache,AV.int .i64 x1.c.queue,AV.int .i64 x1.c.rate,AV.int .i64 x1.c.aZ,AV.int .i64 x1.c.rule.kind,AV.int .i64 x1.c.rule.n,AV.str x1.c.rule.key,AV.str x1.c.rule.text,v0,AV.int .i64 x1.time,AV.bool x1.shut,v1,AV.int .i64 x1.bg,AV.int .i64 x1.b.rate,AV.int .i64 x1.b.aZ,AV.int .i64 x1.b.tokens,AV.int .i64 x1.b.at_,v2,AV.int .i64 x1.used,AV.int .i64 x1.w.now,v3,v4,v5,v6,v7,v8,(AV.sl b9 o9 x.tasks.length),v10,AV.int .i64 x1.next] 0:=b6
  have hb6:=bk6.1
  (repeat' first|((with_reducible refine fC ?_);refine kE cv6 rfl (qO bk6 bV) ?_)|refine vsx ?_|(with_reducible refine bA ?_)|fail)
  refine fin (fun x7 F7 e7 s7 m7=>?_) (gG hb6) rfl gU
  (repeat' first|(with_reducible refine gQ ?_)|refine vsx ?_|(with_reducible refine bA ?_)|fail)
  refine s7.jv {x7 with time:=wr (x.time+1)} (fun x8 e8 s8=>?_) jc (by rw[e7,e1x];rfl)
  (repeat' first|refine vsw ?_|(refine br ?_ ?_<;>first|exact bx|intro _)|((with_reducible refine bB ?_);((first|refine ix ?_|refine ixi ?_|(refine ixg ?_;intro _ _)|(refine iP ?_;intro _ _));first|rintro _ _ _ _ _ ⟨rfl,rfl⟩ _|rintro _ _ _ _ _ ⟨_,rfl,_⟩ _|rintro _ _ _ _ _ ⟨_,_,_,_,rfl,rfl,_,_⟩ _|intro _ _ _ _ _ _ _))|(refine sx ?_;intro _ _)|refine gS ?_|fail)
  rw[e7,e1x] at e8
  subst e8
  exact⟨rfl,_,rfl,rfl,s8.done⟩
 ·rw[ahi hf]
  (repeat' first|refine vsy ?_|(with_reducible refine bA ?_)|((with_reducible refine iN ?_);refine iM aO ?_)|((with_reducible refine aG Bp ?_);(refine aQ (SV (c:=x.c) (s:=s) (F:=Fs) ok hss aB) ?_;rw[gM hf]))|fail)
  have s1:=s0.ext (aI:Ext h ((((h1.upd (h.n+1) ⟨[.int .i64 1,.int .i64 k,.int .i64 s.trace,.int .i64 s.id,.int .i64 s.start,.int .i64 s.fin,.bool s.err,z1,.int .i64 0,.int .i64 0,.int .i64 0,.bool false,.bool false,.int .i64 0,.int .i64 0,.int .i64 0,.int .i64 x.w.now,.int .i64 x.time,.int .i64 (-1),.int .i64 (-1)],0,0⟩).upd (h.n+1) ⟨[.int .i64 1,.int .i64 k,.int .i64 s.trace,.int .i64 s.id,.int .i64 s.start,.int .i64 s.fin,.bool s.err,z1,.int .i64 0,.int .i64 0,.int .i64 5,.bool false,.bool false,.int .i64 0,.int .i64 0,.int .i64 0,.int .i64 x.w.now,.int .i64 x.time,.int .i64 (-1),.int .i64 (-1)],0,0⟩).upd (h.n+1) ⟨[.int .i64 1,.int .i64 k,.int .i64 s.trace,.int .i64 s.id,.int .i64 s.start,.int .i64 s.fin,.bool s.err,z1,.int .i64 0,.int .i64 0,.int .i64 5,.bool false,.bool false,.int .i64 0,.int .i64 0,.int .i64 0,.int .i64 x.w.now,.int .i64 x.time,.int .i64 x.time,.int .i64 (-1)],0,0⟩).upd (h.n+1) ⟨[.int .i64 1,.int .i64 k,.int .i64 s.trace,.int .i64 s.id,.int .i64 s.start,.int .i64 s.fin,.bool s.err,z1,.int .i64 0,.int .i64 0,.int .i64 5,.bool false,.bool false,.int .i64 0,.int .i64 0,.int .i64 0,.int .i64 x.w.now,.int .i64 x.time,.int .i64 x.time,.int .i64 x.time],0,0⟩))
  (repeat' first|refine vsx ?_|fail)
  refine s1.xQ (a:=⟨1,k,s,0,0,5,false,false,0,0,0,x.w.now,x.time,x.time,x.time⟩) (G:=G1) (q:=h.n) ⟨_,rfl,aB⟩ ((aY:Own (h.n+1+1) _ G1).mono (by omega) fun _ _=>rfl) ⟨by omega,Nat.le_refl _⟩ (fun c hc=>⟨by have:=oG c hc;omega,fun hm=>by have:=lt c hm;have:=oG c hc;omega⟩) (by omega) (by omega) ?_
  intro v' h6 k6 b6 cv6 fin
  have bk6:Bk h6 b [AV.int .i64 x.c.dK,AV.int .i64 x.c.wait,AV.int .i64 x.c.budget,AV.int .i64 x.c.cache,AV.int .i64 x.c.queue,AV.int .i64 x.c.rate,AV.int .i64 x.c.aZ,AV.int .i64 x.c.rule.kind,AV.int .i64 x.c.rule.n,AV.str x.c.rule.key,AV.str x.c.rule.text,v0,AV.int .i64 x.time,AV.bool x.shut,v1,AV.int .i64 x.bg,AV.int .i64 x.b.rate,AV.int .i64 x.b.aZ,AV.int .i64 x.b.tokens,AV.int .i64 x.b.at_,v2,AV.int .i64 x.used,AV.int .i64 x.w.now,v3,v4,v5,v6,v7,v8,(AV.sl b9 o9 x.tasks.length),v10,AV.int .i64 x.next] 0:=b6
  have hb6:=bk6.1
  (repeat' first|((with_reducible refine fC ?_);refine kE cv6 rfl (qO bk6 bV) ?_)|refine vsx ?_|(with_reducible refine bA ?_)|fail)
  refine fin (fun x7 F7 e7 s7 m7=>?_) (gG hb6) rfl gU
  (repeat' first|(with_reducible refine gQ ?_)|refine vsx ?_|(with_reducible refine bA ?_)|fail)
  refine s7.jv {x7 with time:=wr (x.time+1)} (fun x8 e8 s8=>?_) jc (by rw[e7];rfl)
  (repeat' first|refine vsw ?_|(refine br ?_ ?_<;>first|exact bx|intro _)|((with_reducible refine bB ?_);((first|refine ix ?_|refine ixi ?_|(refine ixg ?_;intro _ _)|(refine iP ?_;intro _ _));first|rintro _ _ _ _ _ ⟨rfl,rfl⟩ _|rintro _ _ _ _ _ ⟨_,rfl,_⟩ _|rintro _ _ _ _ _ ⟨_,_,_,_,rfl,rfl,_,_⟩ _|intro _ _ _ _ _ _ _))|(refine sx ?_;intro _ _)|refine gS ?_|fail)
  rw[e7] at e8
  subst e8
  exact⟨rfl,_,rfl,rfl,s8.done⟩
end Go.Proofs.YtcgjihfngdhjjaaGreat
end
