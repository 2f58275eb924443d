import Derived.Test.YtkdjapahgmflbaaGreatDKW1
import Derived.Test.YtkdjapahgmflbaaGreatDKW2
import Derived.Test.YtkdjapahgmflbaaGreatDK5
section
set_option linter.unusedSimpArgs false
set_option linter.unusedVariables false
set_option maxHeartbeats 4000000
namespace Go.Proofs.YtkdjapahgmflbaaGreat
open Go Go.Ab
section
def Pn (x0:AV):Prog:=.op (.box x0) fun a=>.op (.alloc jE) fun b=>Ld 32 a fun c=>.op (.alloc jE) fun d=>.op (.st 32 d c) fun _=>.op (.fad 0 a) fun c=>Ld 12 c fun c=>Cl JQ [c] fun c=>.op (.fad 0 d) fun e=>.op (.st 12 e c) fun _=>Lg 14 a fun c=>Cl Dc [c] fun c=>Sg 14 d c fun _=>Lg 20 a fun c=>.op (.app 3 24 .aC c) fun c=>Sg 20 d c fun _=>.op (.fad 22 a) fun c=>Ld 4 c fun c=>Cl wY [c] fun c=>.op (.fad 22 d) fun e=>.op (.st 4 e c) fun _=>Lg 26 a fun c=>.op (.app 3 24 .aC c) fun c=>Sg 26 d c fun _=>Lg 27 a fun c=>.op (.fad 28 a) fun e=>.op (.ld1 e) fun f=>Cl wZ [c] fun c=>.chk (.ld1 e) f (.op (.fad 27 d) fun e=>Cl wZ [f] fun f=>.op (.st 1 e c) fun _=>Sg 28 d f fun _=>Lg 30 a fun c=>Cl Ju [c] fun c=>Sg 30 d c fun _=>Sg 29 d .aC fun _=>Lg 29 a fun a=>Ln 0 a fun c=>.loop [.int .i64 0] (fun b=>Bn .lss (g b 0) c fun c=>.ite c (Ix 12 a (g b 0) fun a=>Ld 12 a fun a=>.op (.alloc gJ) fun c=>.op (.st 12 c a) fun _=>.op (.fad 2 c) fun a=>Ld 6 a fun a=>.op (.fad 10 c) fun e=>.op (.ld1 e) fun f=>Cl kY [a] fun a=>.chk (.ld1 e) f (.op (.fad 2 c) fun e=>Cl wZ [f] fun f=>.op (.st 6 e a) fun _=>Sg 10 c f fun _=>Lg 29 d fun a=>Ld 12 c fun c=>.op (.aU 12 1 gJ [(0,12,c)]) fun c=>.op (.app 12 128 a c) fun a=>Sg 29 d a fun _=>Bn .add (g b 0) (.int .i64 1) fun a=>.leaf 0 [a])) (.leaf 2 [g b 0])) fun a c=>aB a 1 (.leaf 1 c) (aB a 2 (Ld 32 d fun a=>.op (.st 32 b a) fun _=>.fin [.cn 32 b]) .bad))
theorem ab4 (x0:AV):CC Tryz.prog rX [x0] (Pn x0):=cc Tryz.func71 [2,3,41,42,43] (fun r=>if r=7 then[(0,[]),(1,[]),(3,[]),(4,[]),(2,[4]),(6,[]),(5,[]),(7,[]),(8,[]),(9,[])] else if r=13 then[(0,[]),(1,[]),(3,[]),(4,[]),(2,[4]),(6,[]),(5,[]),(7,[]),(8,[]),(9,[])] else[])
end
theorem wsz (x:Wld):Sz.sz x=Sz.sz x.c+(x.st.length+szs x.st)+(x.cache.length+szs x.cache)+((x.w.near.length+szs x.w.near)+(x.w.far.length+szs x.w.far)+(x.w.rest.length+szs x.w.rest))+(x.due.length+szs x.due)+(x.queue.length+szs x.queue)+(x.out.length+szs x.out)+(x.tasks.length+szs x.tasks)+(x.aF.length+szs x.aF):=rfl
theorem oC (x:Wld) (hs:Sz.sz x≤67108864):dO Wld Tryz.prog rX x:=by
 rintro cs F h ⟨v0,v1,v2,v3,v4,v5,v6,v7,v8,v9,v10,F0,F1,F2,F3,F4,F5,F6,F7,F8,F9,F10,rfl,rfl,r0,r1,r2,r3,r4,r5,r6,r7,r8,r9,r10⟩
 rw[wsz] at hs
 have e_w:Sz.sz x.w=(x.w.near.length+szs x.w.near)+(x.w.far.length+szs x.w.far)+(x.w.rest.length+szs x.w.rest):=rfl
 refine ab4 _ ?_
 unfold Pn
 (repeat' first|refine vs ?_|fail)
 refine aK (acO x.c (by omega) _ _ _ ⟨_,rfl,ah⟩) ?_
 rintro _ h1 ⟨e1,_,G0,rfl,⟨w0,rfl,q0⟩,o0⟩
 have n1:=e1.1;(try simp only[aH,aN] at n1)
 (repeat' first|refine vs ?_|fail)
 refine aK (Ox x.st (by omega) _ _ _ ah) ?_
 rintro w1 h2 ⟨e2,G1,q1,o1⟩
 have n2:=e2.1;(try simp only[aH,aN] at n2)
 (repeat' first|refine vs ?_|fail)
 refine app0 (ys:=x.cache) (ah:au _ v2 x.cache F2) (oU r2 _) (Nat.le_refl _) rfl (by omega) ?_
 intro w2 h3 G2 e3 q2 o2
 have n3:=e3.1;(try simp only[aH,aN] at n3)
 (repeat' first|refine vs ?_|fail)
 refine aK (Dk x.w (by omega) _ _ _ ⟨_,_,_,_,_,_,rfl,rfl,ah,ah,ah⟩) ?_
 rintro _ h4 ⟨e4,_,_,rfl,⟨w3,w4,w5,G3,G4,G5,rfl,rfl,q3,q4,q5⟩,o3⟩
 have n4:=e4.1;(try simp only[aH,aN] at n4)
 (repeat' first|refine vs ?_|fail)
 refine app0 (ys:=x.due) (ah:au _ v6 x.due F6) (oU r6 _) (Nat.le_refl _) rfl (by omega) ?_
 intro w6 h5 G6 e5 q6 o6
 have n5:=e5.1;(try simp only[aH,aN] at n5)
 (repeat' first|refine vs ?_|fail)
 refine aK (Jm x.queue (by omega) _ _ _ ah) ?_
 rintro w7 h6 ⟨e6,G7,q7,o7⟩
 have n6:=e6.1;(try simp only[aH,aN] at n6)
 (repeat' first|refine vs ?_|fail)
 refine aK (Jm x.out (by omega) _ _ _ ah) ?_
 rintro w8 h7 ⟨e7,G8,q8,o8⟩
 have n7:=e7.1;(try simp only[aH,aN] at n7)
 (repeat' first|refine vs ?_|fail)
 refine aK (abn x.aF (by omega) _ _ _ ah) ?_
 rintro w10 h8 ⟨e8,G10,q10,o10⟩
 have n8:=e8.1;(try simp only[aH,aN] at n8)
 have r9':au h8 v9 x.tasks F9:=r9.ext aD
 have lt9:=r9.lt
 have hsm:=r9.small
 (repeat' first|refine vs ?_|fail)
 refine aT x.tasks.length (fun i vs h9=>∃ u G,vs=[.int .i64 (i:Int)]∧i≤x.tasks.length∧Bk h9 (h.n+1+1) [AV.int .i64 x.c.eU,AV.int .i64 x.c.wait,AV.int .i64 x.c.budget,AV.int .i64 x.c.cache,AV.int .i64 x.c.queue,AV.int .i64 x.c.rate,AV.int .i64 x.c.bn,AV.int .i64 x.c.rule.kind,AV.int .i64 x.c.rule.n,AV.str x.c.rule.key,AV.str x.c.rule.text,w0,AV.int .i64 x.time,AV.bool x.shut,w1,AV.int .i64 x.bS,AV.int .i64 x.b.rate,AV.int .i64 x.b.bn,AV.int .i64 x.b.tokens,AV.int .i64 x.b.at_,w2,AV.int .i64 x.used,AV.int .i64 x.w.now,w3,w4,w5,w6,w7,w8,u,w10,AV.int .i64 x.next] 0∧Bk h9 (h.n+1) [AV.int .i64 0,AV.int .i64 0,AV.int .i64 0,AV.int .i64 0,AV.int .i64 0,AV.int .i64 0,AV.int .i64 0,AV.int .i64 0,AV.int .i64 0,AV.str ⟨#[]⟩,AV.str ⟨#[]⟩,AV.aC,AV.int .i64 0,AV.bool false,AV.aC,AV.int .i64 0,AV.int .i64 0,AV.int .i64 0,AV.int .i64 0,AV.int .i64 0,AV.aC,AV.int .i64 0,AV.int .i64 0,AV.aC,AV.aC,AV.aC,AV.aC,AV.aC,AV.aC,AV.aC,AV.aC,AV.int .i64 0] 0∧Kp h8 h9 [h.n+1+1]∧au h9 u (x.tasks.take i) G∧Own h8.n h9 G) ?_ ?_
 ·exact⟨.aC,[],rfl,Nat.zero_le _,aV,aV,(((Kp.refl _ _).uy (by simp) _).uy (by simp) _),au.aC,Own.nil⟩
 rintro i vs h9 _ ⟨u,G,rfl,hi,b3,b1,k9,ru,ou⟩
 have n9:=k9.1
 simp only[g0]
 have r99:=aL k9 r9' fun c hc hX=>by have:=lt9 c hc;have:=List.mem_singleton.1 hX;omega
 refine br (fun hlt=>?_) (fun hge=>?_)
 ·obtain⟨t,ht,-,htk⟩:=aP (show i < x.tasks.length by omega)
  have hm:=bC (List.mem_of_getElem? ht)
  have hx2:Sz.sz t=Sz.sz t.s+(t.hand.length+szs t.hand):=rfl
  refine vs ?_
  refine bV r99 ht rfl ?_
  rintro b o _ Fi a ⟨y0,y1,H0,H1,rfl,rfl,t0,t1⟩ _
  (repeat' first|refine vs ?_|((with_reducible refine aA kY ?_);(refine aK (rY t.s (by omega) _ _ _ ⟨_,rfl,ah⟩) ?_;rintro _ h10 ⟨e10,_,G11,rfl,⟨w11,rfl,q11⟩,o11⟩;have n10:=e10.1;(try simp only[aH,aN] at n10)))|((with_reducible refine aA wZ ?_);(refine aK (Jm t.hand (by omega) _ _ _ ah) ?_;rintro w12 h11 ⟨e11,G12,q12,o12⟩;have n11:=e11.1;(try simp only[aH,aN] at n11)))|fail)
  have hlen:(x.tasks.take i).length=i:=by rw[List.length_take];omega
  refine app1 (n:=h8.n) (xs:=x.tasks.take i) (Fx:=G) (a:=t) ah ⟨_,_,_,_,rfl,rfl,ah,ah⟩ ?_ aO rfl ?_ ?_ ?_
  ·exact(dK cK (dK cK cK dV) dV).1
  ·rw[hlen];omega
  ·rw[hlen];omega
  intro u' h' F' ek kp r' o'
  have n12:=kp.1;(try simp only[aH,aN] at n12)
  (repeat' first|refine vs ?_|fail)
  exact⟨by omega,u',F',rfl,by omega,aV,aV,(Mr:Kp h8 h' [h.n+1+1]).uy (by simp) _,by rw[htk];exact ah,bA⟩
 have hi2:i=x.tasks.length:=by omega
 subst hi2
 rw[List.take_length] at ru
 have o3a:=dA o3
 have o3b:=dA (bD o3)
 have o3c:=bD (bD o3)
 have d3:=mZ o3
 have d4:=mZ (bD o3)
 have d34:=Ng d3
 have d35:=Iu d3
 (repeat' first|refine vs ?_|fail)
 refine⟨rfl,_,rfl,(Kp.ext (aD:Ext h h8) k9 (by simp;omega)).upd (by simp) _,_,_,rfl,⟨w0,w1,w2,w3,w4,w5,w6,w7,w8,u,w10,_,_,_,_,_,_,_,_,_,_,_,rfl,rfl,ah,ah,ah,ah,ah,ah,ah,ah,ah,ah,ah⟩,?_⟩
 exact(dK cK (dK cK (dK cK (dK cK (dK cK (dK cK (dK cK (dK cK (dK cK (dK cK cK dV) dV) dV) dV) dV) dV) dV) dV) dV) dV).1
end Go.Proofs.YtkdjapahgmflbaaGreat
end
section
set_option linter.unusedSimpArgs false
set_option linter.unusedVariables false
set_option maxHeartbeats 4000000
namespace Go.Proofs.YtkdjapahgmflbaaGreat
open Go Go.Ab
section
def Q8 (x0:AV):Prog:=.op (.box x0) fun a=>.op (.alloc jE) fun b=>Ld 32 a fun c=>.op (.alloc jE) fun d=>.op (.st 32 d c) fun _=>.op (.fad 0 a) fun c=>Ld 12 c fun c=>Cl Kg [c] fun c=>.op (.alloc yF) fun e=>.op (.st 12 e c) fun _=>Ld 12 e fun c=>.op (.fad 0 d) fun e=>.op (.st 12 e c) fun _=>Lg 14 a fun c=>Cl Ei [c] fun c=>Sg 14 d c fun _=>.op (.aU 3 0 [] []) fun c=>Lg 20 a fun e=>.op (.app 3 24 c e) fun c=>Sg 20 d c fun _=>.op (.fad 22 a) fun c=>Ld 4 c fun c=>Cl xD [c] fun c=>.op (.alloc [.int .i64 0,.aC,.aC,.aC]) fun e=>.op (.st 4 e c) fun _=>Ld 4 e fun c=>.op (.fad 22 d) fun e=>.op (.st 4 e c) fun _=>.op (.aU 3 0 [] []) fun c=>Lg 26 a fun e=>.op (.app 3 24 c e) fun c=>Sg 26 d c fun _=>Lg 27 a fun c=>Cl w9 [c] fun c=>Sg 27 d c fun _=>Lg 28 a fun c=>Cl w9 [c] fun c=>Sg 28 d c fun _=>.op (.aU 12 0 [] []) fun c=>Sg 29 d c fun _=>.loop [.int .i64 0] (fun b=>Lg 29 a fun c=>Ln 0 c fun c=>Bn .lss (g b 0) c fun c=>.ite c (Lg 29 a fun a=>Ix 12 a (g b 0) fun a=>Ld 12 a fun a=>Cl Eh [a] fun a=>.op (.alloc gJ) fun c=>.op (.st 12 c a) fun _=>Lg 29 d fun a=>Ld 12 c fun c=>.op (.aU 12 1 gJ [(0,12,c)]) fun c=>.op (.app 12 128 a c) fun a=>Sg 29 d a fun _=>Bn .add (g b 0) (.int .i64 1) fun a=>.leaf 0 [a]) (.leaf 2 [g b 0])) fun c e=>aB c 1 (.leaf 1 e) (aB c 2 (Lg 30 a fun a=>Cl KF [a] fun a=>Sg 30 d a fun _=>Ld 32 d fun a=>.op (.st 32 b a) fun _=>.fin [.cn 32 b]) .bad)
theorem ae4 (x0:AV):CC Tryz.prog Ef [x0] (Q8 x0):=cc Tryz.func57 [1,2,3,6] (fun _=>[])
end
theorem JW (x:Wld) (hs:Sz.sz x≤67108864):dO Wld Tryz.prog Ef x:=by
 rintro cs F h ⟨v0,v1,v2,v3,v4,v5,v6,v7,v8,v9,v10,F0,F1,F2,F3,F4,F5,F6,F7,F8,F9,F10,rfl,rfl,r0,r1,r2,r3,r4,r5,r6,r7,r8,r9,r10⟩
 rw[wsz] at hs
 have e_w:Sz.sz x.w=(x.w.near.length+szs x.w.near)+(x.w.far.length+szs x.w.far)+(x.w.rest.length+szs x.w.rest):=rfl
 have lt9:=r9.lt
 have anE:=r10.lt
 have hsm:=r9.small
 refine ae4 _ ?_
 unfold Q8
 (repeat' first|refine vs ?_|fail)
 refine aK (adY x.c (by omega) _ _ _ ⟨_,rfl,ah⟩) ?_
 rintro _ h1 ⟨e1,_,G0,rfl,⟨w0,rfl,q0⟩,o0⟩
 have n1:=e1.1;(try simp only[aH,aN] at n1)
 (repeat' first|refine vs ?_|fail)
 refine aK (QG x.st (by omega) _ _ _ ah) ?_
 rintro w1 h2 ⟨e2,G1,q1,o1⟩
 have n2:=e2.1;(try simp only[aH,aN] at n2)
 (repeat' first|refine vs ?_|fail)
 refine CK (ys:=x.cache) (ah:au _ v2 x.cache F2) (oU r2 _) (Nat.le_refl _) rfl (by omega) ?_
 intro w2 h3 G2 e3 q2 o2
 have n3:=e3.1;(try simp only[aH,aN] at n3)
 (repeat' first|refine vs ?_|fail)
 refine aK (EP x.w (by omega) _ _ _ ⟨_,_,_,_,_,_,rfl,rfl,ah,ah,ah⟩) ?_
 rintro _ h4 ⟨e4,_,_,rfl,⟨w3,w4,w5,G3,G4,G5,rfl,rfl,q3,q4,q5⟩,o3⟩
 have n4:=e4.1;(try simp only[aH,aN] at n4)
 (repeat' first|refine vs ?_|fail)
 refine CK (ys:=x.due) (ah:au _ v6 x.due F6) (oU r6 _) (Nat.le_refl _) rfl (by omega) ?_
 intro w6 h5 G6 e5 q6 o6
 have n5:=e5.1;(try simp only[aH,aN] at n5)
 (repeat' first|refine vs ?_|fail)
 refine aK (JA x.queue (by omega) _ _ _ ah) ?_
 rintro w7 h6 ⟨e6,G7,q7,o7⟩
 have n6:=e6.1;(try simp only[aH,aN] at n6)
 (repeat' first|refine vs ?_|fail)
 refine aK (JA x.out (by omega) _ _ _ ah) ?_
 rintro w8 h7 ⟨e7,G8,q8,o8⟩
 have n7:=e7.1;(try simp only[aH,aN] at n7)
 (repeat' first|refine vs ?_|fail)
 have b7:Bk h7 h.n (x.cs v0 v1 v2 v3 v4 v5 v6 v7 v8 v9 v10) 0:=aV
 have r97:au h7 v9 x.tasks F9:=r9.ext aD
 have anp:au h7 v10 x.aF F10:=r10.ext aD
 refine aT x.tasks.length (fun i vs h9=>∃ u G,vs=[.int .i64 (i:Int)]∧i≤x.tasks.length∧Bk h9 (h.n+1+1) [AV.int .i64 x.c.eU,AV.int .i64 x.c.wait,AV.int .i64 x.c.budget,AV.int .i64 x.c.cache,AV.int .i64 x.c.queue,AV.int .i64 x.c.rate,AV.int .i64 x.c.bn,AV.int .i64 x.c.rule.kind,AV.int .i64 x.c.rule.n,AV.str x.c.rule.key,AV.str x.c.rule.text,w0,AV.int .i64 x.time,AV.bool x.shut,w1,AV.int .i64 x.bS,AV.int .i64 x.b.rate,AV.int .i64 x.b.bn,AV.int .i64 x.b.tokens,AV.int .i64 x.b.at_,w2,AV.int .i64 x.used,AV.int .i64 x.w.now,w3,w4,w5,w6,w7,w8,u,v10,AV.int .i64 x.next] 0∧Bk h9 (h.n+1) [AV.int .i64 0,AV.int .i64 0,AV.int .i64 0,AV.int .i64 0,AV.int .i64 0,AV.int .i64 0,AV.int .i64 0,AV.int .i64 0,AV.int .i64 0,AV.str ⟨#[]⟩,AV.str ⟨#[]⟩,AV.aC,AV.int .i64 0,AV.bool false,AV.aC,AV.int .i64 0,AV.int .i64 0,AV.int .i64 0,AV.int .i64 0,AV.int .i64 0,AV.aC,AV.int .i64 0,AV.int .i64 0,AV.aC,AV.aC,AV.aC,AV.aC,AV.aC,AV.aC,AV.aC,AV.aC,AV.int .i64 0] 0∧Bk h9 h.n (x.cs v0 v1 v2 v3 v4 v5 v6 v7 v8 v9 v10) 0∧Kp h7 h9 [h.n+1+1]∧au h9 u (x.tasks.take i) G∧Own h7.n h9 G∧h7.n≤h9.n) ?_ ?_
 ·exact⟨_,_,rfl,Nat.zero_le _,jC (fP (by simp only[aH,aN];omega)),aV,aV,((((Kp.refl _ _).uy (by simp) _).uy (by simp) _).push _),(jy (α:=Task) rfl).1,(jy (α:=Task) rfl).2 h7.n (Nat.le_refl _),by simp⟩
 rintro i vs h9 _ ⟨u,G,rfl,hi,b3,b1,b0,k9,ru,ou,n9⟩
 simp only[g0]
 have r99:=aL k9 r97 fun c hc hX=>by have:=lt9 c hc;have:=List.mem_singleton.1 hX;omega
 refine vs ?_
 refine br (fun hlt=>?_) (fun hge=>?_)
 ·obtain⟨t,ht,-,htk⟩:=aP (show i < x.tasks.length by omega)
  have hm:=bC (List.mem_of_getElem? ht)
  have hx2:Sz.sz t=Sz.sz t.s+(t.hand.length+szs t.hand):=rfl
  refine vs ?_
  refine bV r99 ht rfl ?_
  rintro b o _ Fi a ⟨y0,y1,H0,H1,rfl,rfl,t0,t1⟩ _
  (repeat' first|refine vs ?_|((with_reducible refine aA Eh ?_);(refine aK (adX t (by omega) _ _ _ ⟨_,_,_,_,rfl,rfl,ah,ah⟩) ?_;rintro _ h10 ⟨e10,_,_,rfl,⟨w11,w12,G11,G12,rfl,rfl,q11,q12⟩,o11⟩;have n10:=e10.1;(try simp only[aH,aN] at n10)))|fail)
  have oa:=dA o11
  have ob:=bD o11
  have od:=mZ o11
  have hlen:(x.tasks.take i).length=i:=by rw[List.length_take];omega
  refine app1 (n:=h7.n) (xs:=x.tasks.take i) (Fx:=G) (a:=t) ah ⟨_,_,_,_,rfl,rfl,ah,ah⟩ ?_ aO rfl ?_ ?_ ?_
  ·exact(dK cK (dK cK cK od) dV).1
  ·rw[hlen];omega
  ·rw[hlen];omega
  intro u' h' F' ek kp r' o'
  have n12:=kp.1;(try simp only[aH,aN] at n12)
  (repeat' first|refine vs ?_|fail)
  exact⟨by omega,u',F',rfl,by omega,aV,aV,aV,(Mr:Kp h7 h' [h.n+1+1]).uy (by simp) _,by rw[htk];exact ah,bA,by simp only[aN];omega⟩
 have hi2:i=x.tasks.length:=by omega
 subst hi2
 rw[List.take_length] at ru
 have o3a:=dA o3
 have o3b:=dA (bD o3)
 have o3c:=bD (bD o3)
 have d3:=mZ o3
 have d4:=mZ (bD o3)
 have d34:=Ng d3
 have d35:=Iu d3
 have aoF:=aL k9 anp fun c hc hX=>by have:=anE c hc;have:=List.mem_singleton.1 hX;omega
 (repeat' first|refine vs ?_|fail)
 refine aK (agc x.aF (by omega) _ _ _ ah) ?_
 rintro w10 h10 ⟨e10,G10,q10,o10⟩
 have n10:=e10.1;(try simp only[aH,aN] at n10)
 (repeat' first|refine vs ?_|fail)
 refine⟨rfl,_,rfl,((((Kp.ext (aD:Ext h h7) k9 (by simp;omega)).trans e10).upd (by simp only[aH];omega) _).upd (by simp only[aH];omega) _),_,_,rfl,⟨w0,w1,w2,w3,w4,w5,w6,w7,w8,u,w10,_,_,_,_,_,_,_,_,_,_,_,rfl,rfl,ah,ah,ah,ah,ah,ah,ah,ah,ah,ah,ah⟩,?_⟩
 exact(dK cK (dK cK (dK cK (dK cK (dK cK (dK cK (dK cK (dK cK (dK cK (dK cK cK dV) dV) dV) dV) dV) dV) dV) dV) dV) dV).1
end Go.Proofs.YtkdjapahgmflbaaGreat
end
