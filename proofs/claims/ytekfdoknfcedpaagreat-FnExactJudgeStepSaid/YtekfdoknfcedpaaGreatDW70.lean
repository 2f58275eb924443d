import Derived.Test.YtekfdoknfcedpaaGreatDKW1
import Derived.Test.YtekfdoknfcedpaaGreatDW69
import Derived.Test.YtekfdoknfcedpaaGreatDKW2
import Derived.Test.YtekfdoknfcedpaaGreatDK5
set_option linter.unusedSimpArgs false
set_option linter.unusedVariables false
set_option maxHeartbeats 4000000
namespace Go.Proofs.YtekfdoknfcedpaaGreat
open Go Go.Ab
section
def OH (x0:AV):Prog:=.op (.box x0) fun a=>.op (.alloc ji) fun b=>Ld 32 a fun c=>.op (.alloc ji) fun d=>.op (.st 32 d c) fun _=>.op (.fad 0 a) fun c=>Ld 12 c fun c=>Cl IU [c] fun c=>.op (.alloc uW) fun e=>.op (.st 12 e c) fun _=>Ld 12 e fun c=>.op (.fad 0 d) fun e=>.op (.st 12 e c) fun _=>Lg 14 a fun c=>Cl Bg [c] fun c=>Sg 14 d c fun _=>.op (.bE 3 0 [] []) fun c=>Lg 20 a fun e=>.op (.app 3 24 c e) fun c=>Sg 20 d c fun _=>.op (.fad 22 a) fun c=>Ld 4 c fun c=>Cl Ji [c] fun c=>.op (.alloc [.int .i64 0,.aF,.aF,.aF]) fun e=>.op (.st 4 e c) fun _=>Ld 4 e fun c=>.op (.fad 22 d) fun e=>.op (.st 4 e c) fun _=>.op (.bE 3 0 [] []) fun c=>Lg 26 a fun e=>.op (.app 3 24 c e) fun c=>Sg 26 d c fun _=>Lg 27 a fun c=>Cl tF [c] fun c=>Sg 27 d c fun _=>Lg 28 a fun c=>Cl tF [c] fun c=>Sg 28 d c fun _=>.op (.bE 12 0 [] []) fun c=>Sg 29 d c fun _=>.loop [.int .i64 0] (fun b=>Lg 29 a fun c=>Ln 0 c fun c=>Bn .lss (g b 0) c fun c=>.ite c (Lg 29 a fun a=>Ix 12 a (g b 0) fun a=>Ld 12 a fun a=>Cl Bf [a] fun a=>.op (.alloc gu) fun c=>.op (.st 12 c a) fun _=>Lg 29 d fun a=>Ld 12 c fun c=>.op (.bE 12 1 gu [(0,12,c)]) fun c=>.op (.app 12 128 a c) fun a=>Sg 29 d a fun _=>Bn .add (g b 0) (.int .i64 1) fun a=>.leaf 0 [a]) (.leaf 2 [g b 0])) fun c e=>aA c 1 (.leaf 1 e) (aA c 2 (Lg 30 a fun a=>Cl Jk [a] fun a=>Sg 30 d a fun _=>Ld 32 d fun a=>.op (.st 32 b a) fun _=>.fin [.cn 32 b]) .bad)
theorem afu (x0:AV):CC Tryz.prog Bd [x0] (OH x0):=cc Tryz.func29 [1,2,3,6] (fun _=>[])
end
theorem AY (x:Wld) (hs:Sz.sz x≤67108864):dA Wld Tryz.prog Bd x:=by
 rintro cs F h ⟨v0,v1,v2,v3,v4,v5,v6,v7,v8,v9,v10,F0,F1,F2,F3,F4,F5,F6,F7,F8,F9,F10,rfl,rfl,r0,r1,r2,r3,r4,r5,r6,r7,r8,r9,r10⟩
 rw[wsz] at hs
 have e_w:Sz.sz x.w=(x.w.near.length+szs x.w.near)+(x.w.far.length+szs x.w.far)+(x.w.rest.length+szs x.w.rest):=rfl
 have lt9:=r9.lt
 have anw:=r10.lt
 have hsm:=r9.small
 refine afu _ ?_
 unfold OH
 (repeat' first|refine vs ?_|fail)
 refine aT (aer x.c (by omega) _ _ _ ⟨_,rfl,ah⟩) ?_
 rintro _ h1 ⟨e1,_,G0,rfl,⟨w0,rfl,q0⟩,o0⟩
 have n1:=e1.1;(try simp only[aO,aV] at n1)
 (repeat' first|refine vs ?_|fail)
 refine aT (Oh x.st (by omega) _ _ _ ah) ?_
 rintro w1 h2 ⟨e2,G1,q1,o1⟩
 have n2:=e2.1;(try simp only[aO,aV] at n2)
 (repeat' first|refine vs ?_|fail)
 refine GA (ys:=x.cache) (ah:au _ v2 x.cache F2) (mW r2 _) (Nat.le_refl _) rfl (by omega) ?_
 intro w2 h3 G2 e3 q2 o2
 have n3:=e3.1;(try simp only[aO,aV] at n3)
 (repeat' first|refine vs ?_|fail)
 refine aT (agD x.w (by omega) _ _ _ ⟨_,_,_,_,_,_,rfl,rfl,ah,ah,ah⟩) ?_
 rintro _ h4 ⟨e4,_,_,rfl,⟨w3,w4,w5,G3,G4,G5,rfl,rfl,q3,q4,q5⟩,o3⟩
 have n4:=e4.1;(try simp only[aO,aV] at n4)
 (repeat' first|refine vs ?_|fail)
 refine GA (ys:=x.due) (ah:au _ v6 x.due F6) (mW r6 _) (Nat.le_refl _) rfl (by omega) ?_
 intro w6 h5 G6 e5 q6 o6
 have n5:=e5.1;(try simp only[aO,aV] at n5)
 (repeat' first|refine vs ?_|fail)
 refine aT (Ik x.queue (by omega) _ _ _ ah) ?_
 rintro w7 h6 ⟨e6,G7,q7,o7⟩
 have n6:=e6.1;(try simp only[aO,aV] at n6)
 (repeat' first|refine vs ?_|fail)
 refine aT (Ik x.out (by omega) _ _ _ ah) ?_
 rintro w8 h7 ⟨e7,G8,q8,o8⟩
 have n7:=e7.1;(try simp only[aO,aV] at n7)
 (repeat' first|refine vs ?_|fail)
 have b7:Bk h7 h.n (x.cs v0 v1 v2 v3 v4 v5 v6 v7 v8 v9 v10) 0:=bA
 have r97:au h7 v9 x.tasks F9:=r9.ext aG
 have ani:au h7 v10 x.aH F10:=r10.ext aG
 refine aY x.tasks.length (fun i vs h9=>∃ u G,vs=[.int .i64 (i:Int)]∧i≤x.tasks.length∧Bk h9 (h.n+1+1) [AV.int .i64 x.c.bZ,AV.int .i64 x.c.wait,AV.int .i64 x.c.budget,AV.int .i64 x.c.cache,AV.int .i64 x.c.queue,AV.int .i64 x.c.rate,AV.int .i64 x.c.aW,AV.int .i64 x.c.rule.kind,AV.int .i64 x.c.rule.n,AV.str x.c.rule.key,AV.str x.c.rule.text,w0,AV.int .i64 x.time,AV.bool x.shut,w1,AV.int .i64 x.bH,AV.int .i64 x.b.rate,AV.int .i64 x.b.aW,AV.int .i64 x.b.tokens,AV.int .i64 x.b.at_,w2,AV.int .i64 x.used,AV.int .i64 x.w.now,w3,w4,w5,w6,w7,w8,u,v10,AV.int .i64 x.next] 0∧Bk h9 (h.n+1) [AV.int .i64 0,AV.int .i64 0,AV.int .i64 0,AV.int .i64 0,AV.int .i64 0,AV.int .i64 0,AV.int .i64 0,AV.int .i64 0,AV.int .i64 0,AV.str ⟨#[]⟩,AV.str ⟨#[]⟩,AV.aF,AV.int .i64 0,AV.bool false,AV.aF,AV.int .i64 0,AV.int .i64 0,AV.int .i64 0,AV.int .i64 0,AV.int .i64 0,AV.aF,AV.int .i64 0,AV.int .i64 0,AV.aF,AV.aF,AV.aF,AV.aF,AV.aF,AV.aF,AV.aF,AV.aF,AV.int .i64 0] 0∧Bk h9 h.n (x.cs v0 v1 v2 v3 v4 v5 v6 v7 v8 v9 v10) 0∧Kp h7 h9 [h.n+1+1]∧au h9 u (x.tasks.take i) G∧Own h7.n h9 G∧h7.n≤h9.n) ?_ ?_
 ·exact⟨_,_,rfl,Nat.zero_le _,xU (kC (by simp only[aO,aV];omega)),bA,bA,((((Kp.refl _ _).vV (by simp) _).vV (by simp) _).push _),(gF (α:=Task) rfl).1,(gF (α:=Task) rfl).2 h7.n (Nat.le_refl _),by simp⟩
 rintro i vs h9 _ ⟨u,G,rfl,hi,b3,b1,b0,k9,ru,ou,n9⟩
 simp only[g0]
 have r99:=aI k9 r97 fun c hc hX=>by have:=lt9 c hc;have:=List.mem_singleton.1 hX;omega
 refine vs ?_
 refine br (fun hlt=>?_) (fun hge=>?_)
 ·obtain⟨t,ht,-,htk⟩:=aR (show i < x.tasks.length by omega)
  have hm:=bI (List.mem_of_getElem? ht)
  have hx2:Sz.sz t=Sz.sz t.s+(t.hand.length+szs t.hand):=rfl
  refine vs ?_
  refine bS r99 ht rfl ?_
  rintro b o _ Fi a ⟨y0,y1,H0,H1,rfl,rfl,t0,t1⟩ _
  (repeat' first|refine vs ?_|((with_reducible refine aB Bf ?_);(refine aT (aep t (by omega) _ _ _ ⟨_,_,_,_,rfl,rfl,ah,ah⟩) ?_;rintro _ h10 ⟨e10,_,_,rfl,⟨w11,w12,G11,G12,rfl,rfl,q11,q12⟩,o11⟩;have n10:=e10.1;(try simp only[aO,aV] at n10)))|fail)
  have oa:=eu o11
  have ob:=aS o11
  have od:=fC o11
  have hlen:(x.tasks.take i).length=i:=by rw[List.length_take];omega
  refine app1 (n:=h7.n) (xs:=x.tasks.take i) (Fx:=G) (a:=t) ah ⟨_,_,_,_,rfl,rfl,ah,ah⟩ ?_ aP rfl ?_ ?_ ?_
  ·exact(dh bU (dh bU bU od) dD).1
  ·rw[hlen];omega
  ·rw[hlen];omega
  intro u' h' F' ek kp r' o'
  have n12:=kp.1;(try simp only[aO,aV] at n12)
  (repeat' first|refine vs ?_|fail)
  exact⟨by omega,u',F',rfl,by omega,bA,bA,bA,(UL:Kp h7 h' [h.n+1+1]).vV (by simp) _,by rw[htk];exact ah,bJ,by simp only[aV];omega⟩
 have hi2:i=x.tasks.length:=by omega
 subst hi2
 rw[List.take_length] at ru
 have o3a:=eu o3
 have o3b:=eu (aS o3)
 have o3c:=aS (aS o3)
 have d3:=fC o3
 have d4:=fC (aS o3)
 have d34:=bY d3
 have d35:=aM d3
 have aoA:=aI k9 ani fun c hc hX=>by have:=anw c hc;have:=List.mem_singleton.1 hX;omega
 (repeat' first|refine vs ?_|fail)
 refine aT (agH x.aH (by omega) _ _ _ ah) ?_
 rintro w10 h10 ⟨e10,G10,q10,o10⟩
 have n10:=e10.1;(try simp only[aO,aV] at n10)
 (repeat' first|refine vs ?_|fail)
 refine⟨rfl,_,rfl,((((Kp.ext (aG:Ext h h7) k9 (by simp;omega)).trans e10).upd (by simp only[aO];omega) _).upd (by simp only[aO];omega) _),_,_,rfl,⟨w0,w1,w2,w3,w4,w5,w6,w7,w8,u,w10,_,_,_,_,_,_,_,_,_,_,_,rfl,rfl,ah,ah,ah,ah,ah,ah,ah,ah,ah,ah,ah⟩,?_⟩
 exact(dh bU (dh bU (dh bU (dh bU (dh bU (dh bU (dh bU (dh bU (dh bU (dh bU bU dD) dD) dD) dD) dD) dD) dD) dD) dD) dD).1
end Go.Proofs.YtekfdoknfcedpaaGreat
