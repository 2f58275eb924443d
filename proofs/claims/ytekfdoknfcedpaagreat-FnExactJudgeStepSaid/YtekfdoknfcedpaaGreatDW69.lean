import Derived.Test.YtekfdoknfcedpaaGreatDKW1
import Derived.Test.YtekfdoknfcedpaaGreatDKW2
import Derived.Test.YtekfdoknfcedpaaGreatDK5
set_option linter.unusedSimpArgs false
set_option linter.unusedVariables false
set_option maxHeartbeats 4000000
namespace Go.Proofs.YtekfdoknfcedpaaGreat
open Go Go.Ab
section
def M8 (x0:AV):Prog:=.op (.box x0) fun a=>.op (.alloc ji) fun b=>Ld 32 a fun c=>.op (.alloc ji) fun d=>.op (.st 32 d c) fun _=>.op (.fad 0 a) fun c=>Ld 12 c fun c=>Cl IE [c] fun c=>.op (.fad 0 d) fun e=>.op (.st 12 e c) fun _=>Lg 14 a fun c=>Cl zI [c] fun c=>Sg 14 d c fun _=>Lg 20 a fun c=>.op (.app 3 24 .aF c) fun c=>Sg 20 d c fun _=>.op (.fad 22 a) fun c=>Ld 4 c fun c=>Cl Ie [c] fun c=>.op (.fad 22 d) fun e=>.op (.st 4 e c) fun _=>Lg 26 a fun c=>.op (.app 3 24 .aF c) fun c=>Sg 26 d c fun _=>Lg 27 a fun c=>.op (.fad 28 a) fun e=>.op (.ld1 e) fun f=>Cl tu [c] fun c=>.chk (.ld1 e) f (.op (.fad 27 d) fun e=>Cl tu [f] fun f=>.op (.st 1 e c) fun _=>Sg 28 d f fun _=>Lg 30 a fun c=>Cl Ig [c] fun c=>Sg 30 d c fun _=>Sg 29 d .aF fun _=>Lg 29 a fun a=>Ln 0 a fun c=>.loop [.int .i64 0] (fun b=>Bn .lss (g b 0) c fun c=>.ite c (Ix 12 a (g b 0) fun a=>Ld 12 a fun a=>.op (.alloc gu) fun c=>.op (.st 12 c a) fun _=>.op (.fad 2 c) fun a=>Ld 6 a fun a=>.op (.fad 10 c) fun e=>.op (.ld1 e) fun f=>Cl lK [a] fun a=>.chk (.ld1 e) f (.op (.fad 2 c) fun e=>Cl tu [f] fun f=>.op (.st 6 e a) fun _=>Sg 10 c f fun _=>Lg 29 d fun a=>Ld 12 c fun c=>.op (.bE 12 1 gu [(0,12,c)]) fun c=>.op (.app 12 128 a c) fun a=>Sg 29 d a fun _=>Bn .add (g b 0) (.int .i64 1) fun a=>.leaf 0 [a])) (.leaf 2 [g b 0])) fun a c=>aA a 1 (.leaf 1 c) (aA a 2 (Ld 32 d fun a=>.op (.st 32 b a) fun _=>.fin [.cn 32 b]) .bad))
theorem acM (x0:AV):CC Tryz.prog Af [x0] (M8 x0):=cc Tryz.func42 [2,3,41,42,43] (fun r=>if r=7 then[(0,[]),(1,[]),(3,[]),(4,[]),(2,[4]),(6,[]),(5,[]),(7,[]),(8,[]),(9,[])] else if r=13 then[(0,[]),(1,[]),(3,[]),(4,[]),(2,[4]),(6,[]),(5,[]),(7,[]),(8,[]),(9,[])] else[])
end
theorem wsz (x:Wld):Sz.sz x=Sz.sz x.c+(x.st.length+szs x.st)+(x.cache.length+szs x.cache)+((x.w.near.length+szs x.w.near)+(x.w.far.length+szs x.w.far)+(x.w.rest.length+szs x.w.rest))+(x.due.length+szs x.due)+(x.queue.length+szs x.queue)+(x.out.length+szs x.out)+(x.tasks.length+szs x.tasks)+(x.aH.length+szs x.aH):=rfl
theorem zR (x:Wld) (hs:Sz.sz x≤67108864):dA Wld Tryz.prog Af x:=by
 rintro cs F h ⟨v0,v1,v2,v3,v4,v5,v6,v7,v8,v9,v10,F0,F1,F2,F3,F4,F5,F6,F7,F8,F9,F10,rfl,rfl,r0,r1,r2,r3,r4,r5,r6,r7,r8,r9,r10⟩
 rw[wsz] at hs
 have e_w:Sz.sz x.w=(x.w.near.length+szs x.w.near)+(x.w.far.length+szs x.w.far)+(x.w.rest.length+szs x.w.rest):=rfl
 refine acM _ ?_
 unfold M8
 (repeat' first|refine vs ?_|fail)
 refine aT (adp x.c (by omega) _ _ _ ⟨_,rfl,ah⟩) ?_
 rintro _ h1 ⟨e1,_,G0,rfl,⟨w0,rfl,q0⟩,o0⟩
 have n1:=e1.1;(try simp only[aO,aV] at n1)
 (repeat' first|refine vs ?_|fail)
 refine aT (Mc x.st (by omega) _ _ _ ah) ?_
 rintro w1 h2 ⟨e2,G1,q1,o1⟩
 have n2:=e2.1;(try simp only[aO,aV] at n2)
 (repeat' first|refine vs ?_|fail)
 refine app0 (ys:=x.cache) (ah:au _ v2 x.cache F2) (mW r2 _) (Nat.le_refl _) rfl (by omega) ?_
 intro w2 h3 G2 e3 q2 o2
 have n3:=e3.1;(try simp only[aO,aV] at n3)
 (repeat' first|refine vs ?_|fail)
 refine aT (abz x.w (by omega) _ _ _ ⟨_,_,_,_,_,_,rfl,rfl,ah,ah,ah⟩) ?_
 rintro _ h4 ⟨e4,_,_,rfl,⟨w3,w4,w5,G3,G4,G5,rfl,rfl,q3,q4,q5⟩,o3⟩
 have n4:=e4.1;(try simp only[aO,aV] at n4)
 (repeat' first|refine vs ?_|fail)
 refine app0 (ys:=x.due) (ah:au _ v6 x.due F6) (mW r6 _) (Nat.le_refl _) rfl (by omega) ?_
 intro w6 h5 G6 e5 q6 o6
 have n5:=e5.1;(try simp only[aO,aV] at n5)
 (repeat' first|refine vs ?_|fail)
 refine aT (Ht x.queue (by omega) _ _ _ ah) ?_
 rintro w7 h6 ⟨e6,G7,q7,o7⟩
 have n6:=e6.1;(try simp only[aO,aV] at n6)
 (repeat' first|refine vs ?_|fail)
 refine aT (Ht x.out (by omega) _ _ _ ah) ?_
 rintro w8 h7 ⟨e7,G8,q8,o8⟩
 have n7:=e7.1;(try simp only[aO,aV] at n7)
 (repeat' first|refine vs ?_|fail)
 refine aT (abB x.aH (by omega) _ _ _ ah) ?_
 rintro w10 h8 ⟨e8,G10,q10,o10⟩
 have n8:=e8.1;(try simp only[aO,aV] at n8)
 have r9':au h8 v9 x.tasks F9:=r9.ext aG
 have lt9:=r9.lt
 have hsm:=r9.small
 (repeat' first|refine vs ?_|fail)
 refine aY x.tasks.length (fun i vs h9=>∃ u G,vs=[.int .i64 (i:Int)]∧i≤x.tasks.length∧Bk h9 (h.n+1+1) [AV.int .i64 x.c.bZ,AV.int .i64 x.c.wait,AV.int .i64 x.c.budget,AV.int .i64 x.c.cache,AV.int .i64 x.c.queue,AV.int .i64 x.c.rate,AV.int .i64 x.c.aW,AV.int .i64 x.c.rule.kind,AV.int .i64 x.c.rule.n,AV.str x.c.rule.key,AV.str x.c.rule.text,w0,AV.int .i64 x.time,AV.bool x.shut,w1,AV.int .i64 x.bH,AV.int .i64 x.b.rate,AV.int .i64 x.b.aW,AV.int .i64 x.b.tokens,AV.int .i64 x.b.at_,w2,AV.int .i64 x.used,AV.int .i64 x.w.now,w3,w4,w5,w6,w7,w8,u,w10,AV.int .i64 x.next] 0∧Bk h9 (h.n+1) [AV.int .i64 0,AV.int .i64 0,AV.int .i64 0,AV.int .i64 0,AV.int .i64 0,AV.int .i64 0,AV.int .i64 0,AV.int .i64 0,AV.int .i64 0,AV.str ⟨#[]⟩,AV.str ⟨#[]⟩,AV.aF,AV.int .i64 0,AV.bool false,AV.aF,AV.int .i64 0,AV.int .i64 0,AV.int .i64 0,AV.int .i64 0,AV.int .i64 0,AV.aF,AV.int .i64 0,AV.int .i64 0,AV.aF,AV.aF,AV.aF,AV.aF,AV.aF,AV.aF,AV.aF,AV.aF,AV.int .i64 0] 0∧Kp h8 h9 [h.n+1+1]∧au h9 u (x.tasks.take i) G∧Own h8.n h9 G) ?_ ?_
 ·exact⟨.aF,[],rfl,Nat.zero_le _,bA,bA,(((Kp.refl _ _).vV (by simp) _).vV (by simp) _),au.aF,Own.nil⟩
 rintro i vs h9 _ ⟨u,G,rfl,hi,b3,b1,k9,ru,ou⟩
 have n9:=k9.1
 simp only[g0]
 have r99:=aI k9 r9' fun c hc hX=>by have:=lt9 c hc;have:=List.mem_singleton.1 hX;omega
 refine br (fun hlt=>?_) (fun hge=>?_)
 ·obtain⟨t,ht,-,htk⟩:=aR (show i < x.tasks.length by omega)
  have hm:=bI (List.mem_of_getElem? ht)
  have hx2:Sz.sz t=Sz.sz t.s+(t.hand.length+szs t.hand):=rfl
  refine vs ?_
  refine bS r99 ht rfl ?_
  rintro b o _ Fi a ⟨y0,y1,H0,H1,rfl,rfl,t0,t1⟩ _
  (repeat' first|refine vs ?_|((with_reducible refine aB lK ?_);(refine aT (wE t.s (by omega) _ _ _ ⟨_,rfl,ah⟩) ?_;rintro _ h10 ⟨e10,_,G11,rfl,⟨w11,rfl,q11⟩,o11⟩;have n10:=e10.1;(try simp only[aO,aV] at n10)))|((with_reducible refine aB tu ?_);(refine aT (Ht t.hand (by omega) _ _ _ ah) ?_;rintro w12 h11 ⟨e11,G12,q12,o12⟩;have n11:=e11.1;(try simp only[aO,aV] at n11)))|fail)
  have hlen:(x.tasks.take i).length=i:=by rw[List.length_take];omega
  refine app1 (n:=h8.n) (xs:=x.tasks.take i) (Fx:=G) (a:=t) ah ⟨_,_,_,_,rfl,rfl,ah,ah⟩ ?_ aP rfl ?_ ?_ ?_
  ·exact(dh bU (dh bU bU dD) dD).1
  ·rw[hlen];omega
  ·rw[hlen];omega
  intro u' h' F' ek kp r' o'
  have n12:=kp.1;(try simp only[aO,aV] at n12)
  (repeat' first|refine vs ?_|fail)
  exact⟨by omega,u',F',rfl,by omega,bA,bA,(UL:Kp h8 h' [h.n+1+1]).vV (by simp) _,by rw[htk];exact ah,bJ⟩
 have hi2:i=x.tasks.length:=by omega
 subst hi2
 rw[List.take_length] at ru
 have o3a:=eu o3
 have o3b:=eu (aS o3)
 have o3c:=aS (aS o3)
 have d3:=fC o3
 have d4:=fC (aS o3)
 have d34:=bY d3
 have d35:=aM d3
 (repeat' first|refine vs ?_|fail)
 refine⟨rfl,_,rfl,(Kp.ext (aG:Ext h h8) k9 (by simp;omega)).upd (by simp) _,_,_,rfl,⟨w0,w1,w2,w3,w4,w5,w6,w7,w8,u,w10,_,_,_,_,_,_,_,_,_,_,_,rfl,rfl,ah,ah,ah,ah,ah,ah,ah,ah,ah,ah,ah⟩,?_⟩
 exact(dh bU (dh bU (dh bU (dh bU (dh bU (dh bU (dh bU (dh bU (dh bU (dh bU bU dD) dD) dD) dD) dD) dD) dD) dD) dD) dD).1
end Go.Proofs.YtekfdoknfcedpaaGreat
