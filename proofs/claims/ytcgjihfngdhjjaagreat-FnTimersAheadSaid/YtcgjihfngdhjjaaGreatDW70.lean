import Derived.Test.YtcgjihfngdhjjaaGreatDW84
import Derived.Test.YtcgjihfngdhjjaaGreatDKW1
import Derived.Test.YtcgjihfngdhjjaaGreatDKW2
import Derived.Test.YtcgjihfngdhjjaaGreatDK5
section
set_option linter.unusedSimpArgs false
set_option linter.unusedVariables false
set_option maxHeartbeats 2000000
set_option maxRecDepth 20000
namespace Go.Proofs.YtcgjihfngdhjjaaGreat
open Go Go.Ab
attribute[local irreducible] dD
section
def RB (x0 x1:AV):Prog:=.op (.box x0) fun a=>.op (.alloc [.int .i64 0,.aA,.aA,.aA]) fun b=>Ld 4 a fun c=>Cl uH [c] fun c=>.op (.alloc [.int .i64 0,.aA,.aA,.aA]) fun d=>.op (.st 4 d c) fun _=>Ld 4 a fun c=>Cl kV [c] fun c=>.op (.una .not c) fun c=>.ite c (Ld 4 d fun a=>.op (.st 4 b a) fun _=>.fin [.cn 4 b,.val (.bool false)]) (.loop [.int .i64 0] (fun b=>Bn .lss (g b 0) (.int .i64 8) fun c=>.ite c (.op (.fad 1 d) fun c=>.op (.ld1 c) fun e=>Lg 1 a fun f=>Ix 1 f (g b 0) fun f=>.op (.ld1 f) fun f=>Cl AJ [f,x1] fun f=>.chk (.ld1 c) e (Ix 1 e (g b 0) fun c=>.op (.st 1 c f) fun _=>.op (.fad 2 d) fun c=>.op (.ld1 c) fun d=>Lg 2 a fun a=>Ix 1 a (g b 0) fun a=>.op (.ld1 a) fun a=>Cl AJ [a,x1] fun a=>.chk (.ld1 c) d (Ix 1 d (g b 0) fun c=>.op (.st 1 c a) fun _=>Bn .add (g b 0) (.int .i64 1) fun a=>.leaf 0 [a]))) (.leaf 2 [g b 0])) fun c e=>aC c 1 (.leaf 1 e) (aC c 2 (Lg 3 a fun c=>Cl AJ [c,x1] fun c=>Sg 3 d c fun _=>Ld 4 d fun c=>Ld 4 d fun e=>Ld 4 a fun f=>Cl yO [e] fun e=>.chk (.ldn 4 d) c (.chk (.ldn 4 a) f (Ln 0 e fun a=>Cl yO [f] fun e=>.chk (.ldn 4 d) c (Ln 0 e fun d=>Bn .lss a d fun a=>.op (.st 4 b c) fun _=>.fin [.cn 4 b,.val a])))) .bad))
theorem ad5 (x0 x1:AV):CC Tryz.prog KG [x0,x1] (RB x0 x1):=cc Tryz.func279 [1,2,4,6,7] (fun r=>if r=7 then[(0,[]),(1,[]),(2,[]),(3,[]),(4,[]),(5,[]),(6,[]),(7,[]),(8,[]),(9,[1]),(10,[]),(11,[])] else if r=8 then[(0,[]),(1,[]),(2,[]),(3,[]),(4,[]),(5,[]),(6,[]),(7,[]),(8,[]),(9,[1]),(10,[]),(11,[])] else if r=10 then[(0,[]),(1,[]),(4,[]),(2,[0,4]),(3,[]),(5,[0]),(6,[]),(7,[]),(8,[]),(9,[])] else[])
end
theorem agB (w:bn) (id:Int):Sz.sz (⟨w.now,w.near.map (without id),w.far.map (without id),without id w.rest⟩:bn)≤Sz.sz w:=by
 have hsz:∀ w:bn,Sz.sz w=(w.near.length+szs w.near)+(w.far.length+szs w.far)+(w.rest.length+szs w.rest):=fun _=>rfl
 have h0:∀ l:List Ab.Timer,szs l=0:=fun l=>by
  induction l with
  |nil=>rfl
  |cons a l ih=>show Sz.sz a+szs l=0;rw[ih];rfl
 have h1:∀ l:List (List Ab.Timer),szs (l.map (without id))≤szs l:=fun l=>by
  induction l with
  |nil=>exact Nat.le_refl _
  |cons a l ih=>
   have e:∀ a:List Ab.Timer,Sz.sz a=a.length+szs a:=fun _=>rfl
   have:=KQ (id:=id) (l:=a)
   show Sz.sz (without id a)+szs (l.map (without id))≤Sz.sz a+szs l
   rw[e,e,h0,h0];omega
 have:=h1 w.near;have:=h1 w.far;have:=KQ (id:=id) (l:=w.rest)
 rw[hsz,hsz,h0,h0]
 simp only[List.length_map];omega
theorem agE {w:bn} {id:Int} (h: ¬ kK w):eP w id=w:=by unfold eP;rw[if_neg (by rw[gM h];decide)]
theorem agD {w:bn} {id:Int} (h:kK w):eP w id=⟨w.now,w.near.map (without id),w.far.map (without id),without id w.rest⟩:=by unfold eP;rw[if_pos (fK h)]
section
variable{h:AH} {w:bn} {u0 u1 u2:AV} {f0 f1 f2:List Nat} {id:Int}
theorem adu (hs:Sz.sz w≤33554432) (r0:ah h u0 w.near f0) (r1:ah h u1 w.far f1) (r2:ah h u2 w.rest f2):bq Tryz.prog KG [.agg (w.cs u0 u1 u2),.int .i64 id] h fun v h'=>∃ ok,Am bn h (eP w id) ok v h':=by
 have hs1:Sz.sz w≤67108864:=by omega
 have hsz:Sz.sz w=(w.near.length+szs w.near)+(w.far.length+szs w.far)+(w.rest.length+szs w.rest):=rfl
 refine ad5 _ _ ?_
 unfold RB
 (repeat' first|refine vsx ?_|fail)
 refine aL (yJ w hs1 _ _ _ ⟨_,_,_,_,_,_,rfl,rfl,aB,aB,aB⟩) ?_
 rintro _ h1 ⟨e1,_,_,rfl,⟨a0,a1,a2,k0,k1,k2,rfl,rfl,q0,q1,q2⟩,oc⟩
 have n1:=e1.1;(try simp only[aJ,aN] at n1)
 have lt0:=q0.lt;have lt1:=q1.lt;have lt2:=q2.lt
 have o0:=fB oc;have o1:=fB (dI oc);have o2:=dI (dI oc)
 have ocL:bU (h.n+1+1) h1 (k0++(k1++k2)):=⟨oc,fun d hd=>by
  rcases List.mem_append.1 hd with q|q
  ·exact lt0 d q
  rcases List.mem_append.1 q with q|q
  ·exact lt1 d q
  ·exact lt2 d q⟩
 by_cases hw:kK w
 ·rw[agD hw]
  have hl0:=hw.2.1;have hl1:=hw.2.2.1
  (repeat' first|refine vsx ?_|((with_reducible refine aG kV ?_);(refine bC (uD hs1 aB aB aB) ?_ ?_<;>intro hn))|fail)
  all_goals try(exfalso;exact absurd hw (by assumption))
  obtain⟨base,eb⟩:∃ base,base=(h.push ⟨w.cs u0 u1 u2,0,0⟩).push ⟨[AV.int IntKind.i64 0,AV.aA,AV.aA,AV.aA],0,0⟩:=⟨_,rfl⟩
  rw[←eb] at e1
  have nb:base.n=h.n+1+1:=by rw[eb];rfl
  have bx1:Bk base h.n [.int .i64 w.now,u0,u1,u2] 0:=by rw[eb];exact iy gF
  have bx2:Bk base (h.push ⟨w.cs u0 u1 u2,0,0⟩).n [AV.int IntKind.i64 0,AV.aA,AV.aA,AV.aA] 0:=by rw[eb];exact gF
  have eh:Ext h base:=by rw[eb];exact aI
  have r0:ah base u0 w.near f0:=r0.ext eh
  have r1:ah base u1 w.far f1:=r1.ext eh
  have r2:ah base u2 w.rest f2:=r2.ext eh
  have n1':base.n≤h1.n:=by omega
  clear eb
  have J0:CJ base h1.n w.now a0 a1 a2 (wi id 0 w.near) (wi id 0 w.far) w.rest (h1.push ⟨[.int .i64 w.now,a0,a1,a2],0,0⟩):=⟨aI,n1',k0,k1,k2,gF,by rw[X8];exact aB,by rw[X8];exact aB,aB,Nk (by rw[nb];exact(gy ocL).1) (fun d hd=>by have:=ocL.2 d hd;simp;omega) (fun hm=>by have:=ocL.2 _ hm;omega)⟩
  refine aX 8 (fun i vs h2=>vs=[.int .i64 (i:Int)]∧CJ base h1.n w.now a0 a1 a2 (wi id i w.near) (wi id i w.far) w.rest h2) ⟨rfl,J0⟩ ?_
  clear J0 oc ocL lt0 lt1 lt2 o0 o1 o2 q0 q1 q2
  rintro i vs h2 hi ⟨rfl,J⟩
  simp only[g0]
  have hw0:=WA (id:=id) (i:=i) (l:=w.near)
  have hw1:=WA (id:=id) (i:=i) (l:=w.far)
  obtain⟨e2,hbc,G0,G1,G2,b2,p0,p1,p2,sp⟩:=(show _ from J)
  have n2:=e2.1
  have hb2:=b2.1
  refine br (fun hlt=>?_) (fun hge=>?_)
  ·obtain⟨x,hx,-,-⟩:=aU (show i < w.near.length by omega)
   obtain⟨y,hy,-,-⟩:=aU (show i < w.far.length by omega)
   have hxl:Sz.sz x≤szs w.near:=dh (List.mem_of_getElem? hx)
   have hyl:Sz.sz y≤szs w.far:=dh (List.mem_of_getElem? hy)
   have hxs:Sz.sz x=x.length+szs x:=rfl
   have hys:Sz.sz y=y.length+szs y:=rfl
   obtain⟨b0,off,Fi,e0,ev,at0,re,oFi,hb0,ak1,ak5,stp⟩:=J.set0 (l':=without id x) (WB hx)
   subst ev
   clear p0 p1 p2 sp
   (repeat' first|refine vsx ?_|((with_reducible refine bB ?_);((refine ix ?_);rintro _ _ _ _ _ ⟨_,rfl,_⟩ _))|fail)
   refine aL (JG (xs:=x) (id:=id) aB (by omega)) ?_
   rintro v' h3 ⟨e3,f3,q3,o3⟩
   (repeat' first|refine vsx ?_|refine bP ?_|fail)
   refine stp (Kp.gK e3) q3 (o3.mono (by omega) fun _ _=>rfl) (fun d hd=>.inr (o3.2 d hd).1) fun h4 J4=>?_
   obtain⟨e4,-,G0',G1',G2',b4,-⟩:=(show _ from J4)
   have n4:=e4.1
   obtain⟨b0',off',Fi',e0',ev',al1,re',alC,alR,alq,alr,akv⟩:=J4.set1 (l':=without id y) (WB hy)
   subst ev'
   clear J J4 stp at0 re oFi hb0 ak1 ak5 b2 e2 n2 e3
   (repeat' first|refine vsx ?_|((with_reducible refine bB ?_);((refine ix ?_);rintro _ _ _ _ _ ⟨_,rfl,_⟩ _))|fail)
   refine aL (JG (xs:=y) (id:=id) aB (by omega)) ?_
   rintro v5 h5 ⟨e5,f5,q5,o5⟩
   (repeat' first|refine vsx ?_|refine bP ?_|fail)
   refine akv (Kp.gK e5) q5 (o5.mono (by omega) fun _ _=>rfl) (fun d hd=>.inr (o5.2 d hd).1) fun h6 J6=>?_
   (repeat' first|refine vsx ?_|fail)
   refine⟨by omega,rfl,?_⟩
   rw[Wz hx,Wz hy] at J6
   exact J6
  ·have:i=8:=by omega
   subst this
   rw[ai1 (by omega)] at p0 p1
   have c0:=(sp.own 0 _ rfl).2;have c1:=(sp.own 1 _ rfl).2;have c2:=(sp.own 2 _ rfl).2
   have hcs:=agB w id
   (repeat' first|refine vsx ?_|fail)
   refine aL (JG (xs:=w.rest) (id:=id) aB (by omega)) ?_
   rintro v3 h3 ⟨e3,f3,q3,o3⟩
   have n3:=e3.1
   have c3:h1.n ∉ f3:=fun hm=>by have:=(o3.2 _ hm).1;have:=b2.1;omega
   (repeat' first|refine vsx ?_|fail)
   refine aL (Fp (F0:=G0) (F1:=G1) (F2:=f3) (w:=⟨w.now,w.near.map (without id),w.far.map (without id),without id w.rest⟩) (by omega) (dH (iG e3 p0) c0) (dH (iG e3 p1) c1) (dH q3 c3)) ?_
   rintro v4 h4 ⟨e4,f4,q4,o4⟩
   have n4:=e4.1;(try simp only[aJ,aN] at n4)
   (repeat' first|refine vsx ?_|fail)
   refine aL (Fp (w:=w) (by omega) aB aB aB) ?_
   rintro v5 h5 ⟨e5,f5,q5,o5⟩
   have n5:=e5.1
   have oo:Own base.n h2 (G0++G1):=by have:=(xq sp).1;rw[←List.append_assoc] at this;exact fB this
   have d3:∀ d∈G0++G1,d ∉ f3:=fun d hd hm=>by
    have:=(o3.2 d hm).1
    rcases List.mem_append.1 hd with q|q
    ·have:=p0.lt d q;omega
    ·have:=p1.lt d q;omega
   have nz:∀ m:List Nat,(∀ d∈m,base.n≤d)→(h.push ⟨w.cs u0 u1 u2,0,0⟩).n ∉ m:=fun m hm q=>by have:=hm _ q;simp at this;omega
   have z0:=nz G0 fun d hd=>(oo.2 d (List.mem_append_left _ hd)).1
   have z1:=nz G1 fun d hd=>(oo.2 d (List.mem_append_right _ hd)).1
   have z3:=nz f3 fun d hd=>by have:=(o3.2 d hd).1;omega
   (repeat' first|refine vsw ?_|(refine br ?_ ?_<;>first|exact bx|intro _)|fail)
   all_goals
    refine⟨rfl,_,rfl,_,aI,_,G0++(G1++f3),rfl,⟨_,_,_,_,_,_,rfl,rfl,?_,?_,?_⟩,?_⟩
    ·exact dH (iG e5 (iG e4 (dH (iG e3 p0) c0))) z0
    ·exact dH (iG e5 (iG e4 (dH (iG e3 p1) c1))) z1
    ·exact dH (iG e5 (iG e4 (dH q3 c3))) z3
    ·have zz:(h.push ⟨w.cs u0 u1 u2,0,0⟩).n ∉ (G0++G1)++f3:=fun q=>by
      rcases List.mem_append.1 q with q|q
      ·exact(List.mem_append.1 q).elim z0 z1
      ·exact z3 q
     have cc:h1.n ∉ (G0++G1)++f3:=fun q=>by
      rcases List.mem_append.1 q with q|q
      ·exact(List.mem_append.1 q).elim c0 c1
      ·exact c3 q
     have lL:∀ d∈G0++G1,d < h2.n:=fun d hd=>(List.mem_append.1 hd).elim (p0.lt d) (p1.lt d)
     have o6:bU base.n h3 ((G0++G1)++f3):=⟨iK (jk e3 ⟨oo,lL⟩).1 o3 (by omega) d3,fun d hd=>(List.mem_append.1 hd).elim (fun q=>by have:=lL d q;omega) (q3.lt d)⟩
     have:=(dM (jk e5 (jk e4 (dM (k:=⟨[AV.int IntKind.i64 w.now,a0,a1,v3],0,0⟩) o6 cc))) zz (k:=⟨[AV.int IntKind.i64 w.now,a0,a1,v3],0,0⟩)).1
     rw[←List.append_assoc]
     exact this.mono (by omega) fun _ _=>rfl
 ·rw[agE hw]
  (repeat' first|refine vsw ?_|((with_reducible refine aG kV ?_);(refine bC (uD hs1 aB aB aB) ?_ ?_<;>intro hn))|fail)
  all_goals try(exfalso;exact absurd (by assumption) hw)
  have nz:h.n+1 ∉ k0++(k1++k2):=fun hm=>by have:=(oc.2 _ hm).1;simp at this;omega
  exact⟨rfl,_,rfl,false,aI,_,k0++(k1++k2),rfl,⟨_,_,_,_,_,_,rfl,rfl,aB,aB,aB⟩,(gy (dM ocL nz)).1.mono (by omega) fun _ _=>rfl⟩
end
end Go.Proofs.YtcgjihfngdhjjaaGreat
end
section
set_option linter.unusedSimpArgs false
set_option linter.unusedVariables false
set_option maxHeartbeats 4000000
namespace Go.Proofs.YtcgjihfngdhjjaaGreat
open Go Go.Ab
section
end
theorem wsz (x:Wld):Sz.sz x=Sz.sz x.c+(x.st.length+szs x.st)+(x.cache.length+szs x.cache)+((x.w.near.length+szs x.w.near)+(x.w.far.length+szs x.w.far)+(x.w.rest.length+szs x.w.rest))+(x.due.length+szs x.due)+(x.queue.length+szs x.queue)+(x.out.length+szs x.out)+(x.tasks.length+szs x.tasks)+(x.aF.length+szs x.aF):=rfl
end Go.Proofs.YtcgjihfngdhjjaaGreat
end
section
set_option linter.unusedSimpArgs false
set_option linter.unusedVariables false
set_option maxHeartbeats 4000000
namespace Go.Proofs.YtcgjihfngdhjjaaGreat
open Go Go.Ab
section
def Qi (x0:AV):Prog:=.op (.box x0) fun a=>.op (.alloc jh) fun b=>Ld 32 a fun c=>.op (.alloc jh) fun d=>.op (.st 32 d c) fun _=>.op (.fad 0 a) fun c=>Ld 12 c fun c=>Cl A9 [c] fun c=>.op (.alloc zy) fun e=>.op (.st 12 e c) fun _=>Ld 12 e fun c=>.op (.fad 0 d) fun e=>.op (.st 12 e c) fun _=>Lg 14 a fun c=>Cl EO [c] fun c=>Sg 14 d c fun _=>.op (.aS 3 0 [] []) fun c=>Lg 20 a fun e=>.op (.app 3 24 c e) fun c=>Sg 20 d c fun _=>.op (.fad 22 a) fun c=>Ld 4 c fun c=>Cl uH [c] fun c=>.op (.alloc [.int .i64 0,.aA,.aA,.aA]) fun e=>.op (.st 4 e c) fun _=>Ld 4 e fun c=>.op (.fad 22 d) fun e=>.op (.st 4 e c) fun _=>.op (.aS 3 0 [] []) fun c=>Lg 26 a fun e=>.op (.app 3 24 c e) fun c=>Sg 26 d c fun _=>Lg 27 a fun c=>Cl yE [c] fun c=>Sg 27 d c fun _=>Lg 28 a fun c=>Cl yE [c] fun c=>Sg 28 d c fun _=>.op (.aS 12 0 [] []) fun c=>Sg 29 d c fun _=>.loop [.int .i64 0] (fun b=>Lg 29 a fun c=>Ln 0 c fun c=>Bn .lss (g b 0) c fun c=>.ite c (Lg 29 a fun a=>Ix 12 a (g b 0) fun a=>Ld 12 a fun a=>Cl EN [a] fun a=>.op (.alloc ji) fun c=>.op (.st 12 c a) fun _=>Lg 29 d fun a=>Ld 12 c fun c=>.op (.aS 12 1 ji [(0,12,c)]) fun c=>.op (.app 12 128 a c) fun a=>Sg 29 d a fun _=>Bn .add (g b 0) (.int .i64 1) fun a=>.leaf 0 [a]) (.leaf 2 [g b 0])) fun c e=>aC c 1 (.leaf 1 e) (aC c 2 (Lg 30 a fun a=>Cl KE [a] fun a=>Sg 30 d a fun _=>Ld 32 d fun a=>.op (.st 32 b a) fun _=>.fin [.cn 32 b]) .bad)
theorem acH (x0:AV):CC Tryz.prog EM [x0] (Qi x0):=cc Tryz.func89 [1,2,3,6] (fun _=>[])
end
theorem PO (x:Wld) (hs:Sz.sz x≤67108864):mP Wld Tryz.prog EM x:=by
 rintro cs F h ⟨v0,v1,v2,v3,v4,v5,v6,v7,v8,v9,v10,F0,F1,F2,F3,F4,F5,F6,F7,F8,F9,F10,rfl,rfl,r0,r1,r2,r3,r4,r5,r6,r7,r8,r9,r10⟩
 rw[wsz] at hs
 have e_w:Sz.sz x.w=(x.w.near.length+szs x.w.near)+(x.w.far.length+szs x.w.far)+(x.w.rest.length+szs x.w.rest):=rfl
 have lt9:=r9.lt
 have akR:=r10.lt
 have hsm:=r9.small
 refine acH _ ?_
 unfold Qi
 (repeat' first|refine vs ?_|fail)
 refine aL (PS x.c (by omega) _ _ _ ⟨_,rfl,aB⟩) ?_
 rintro _ h1 ⟨e1,_,G0,rfl,⟨w0,rfl,q0⟩,o0⟩
 have n1:=e1.1;(try simp only[aJ,aN] at n1)
 (repeat' first|refine vs ?_|fail)
 refine aL (PU x.st (by omega) _ _ _ aB) ?_
 rintro w1 h2 ⟨e2,G1,q1,o1⟩
 have n2:=e2.1;(try simp only[aJ,aN] at n2)
 (repeat' first|refine vs ?_|fail)
 refine DT (ys:=x.cache) (aB:ah _ v2 x.cache F2) (zn r2 _) (Nat.le_refl _) rfl (by omega) ?_
 intro w2 h3 G2 e3 q2 o2
 have n3:=e3.1;(try simp only[aJ,aN] at n3)
 (repeat' first|refine vs ?_|fail)
 refine aL (yJ x.w (by omega) _ _ _ ⟨_,_,_,_,_,_,rfl,rfl,aB,aB,aB⟩) ?_
 rintro _ h4 ⟨e4,_,_,rfl,⟨w3,w4,w5,G3,G4,G5,rfl,rfl,q3,q4,q5⟩,o3⟩
 have n4:=e4.1;(try simp only[aJ,aN] at n4)
 (repeat' first|refine vs ?_|fail)
 refine DT (ys:=x.due) (aB:ah _ v6 x.due F6) (zn r6 _) (Nat.le_refl _) rfl (by omega) ?_
 intro w6 h5 G6 e5 q6 o6
 have n5:=e5.1;(try simp only[aJ,aN] at n5)
 (repeat' first|refine vs ?_|fail)
 refine aL (JQ x.queue (by omega) _ _ _ aB) ?_
 rintro w7 h6 ⟨e6,G7,q7,o7⟩
 have n6:=e6.1;(try simp only[aJ,aN] at n6)
 (repeat' first|refine vs ?_|fail)
 refine aL (JQ x.out (by omega) _ _ _ aB) ?_
 rintro w8 h7 ⟨e7,G8,q8,o8⟩
 have n7:=e7.1;(try simp only[aJ,aN] at n7)
 (repeat' first|refine vs ?_|fail)
 have b7:Bk h7 h.n (x.cs v0 v1 v2 v3 v4 v5 v6 v7 v8 v9 v10) 0:=aO
 have r97:ah h7 v9 x.tasks F9:=r9.ext aI
 have akE:ah h7 v10 x.aF F10:=r10.ext aI
 refine aX x.tasks.length (fun i vs h9=>∃ u G,vs=[.int .i64 (i:Int)]∧i≤x.tasks.length∧Bk h9 (h.n+1+1) [AV.int .i64 x.c.dK,AV.int .i64 x.c.wait,AV.int .i64 x.c.budget,AV.int .i64 x.c.cache,AV.int .i64 x.c.queue,AV.int .i64 x.c.rate,AV.int .i64 x.c.aZ,AV.int .i64 x.c.rule.kind,AV.int .i64 x.c.rule.n,AV.str x.c.rule.key,AV.str x.c.rule.text,w0,AV.int .i64 x.time,AV.bool x.shut,w1,AV.int .i64 x.bg,AV.int .i64 x.b.rate,AV.int .i64 x.b.aZ,AV.int .i64 x.b.tokens,AV.int .i64 x.b.at_,w2,AV.int .i64 x.used,AV.int .i64 x.w.now,w3,w4,w5,w6,w7,w8,u,v10,AV.int .i64 x.next] 0∧Bk h9 (h.n+1) [AV.int .i64 0,AV.int .i64 0,AV.int .i64 0,AV.int .i64 0,AV.int .i64 0,AV.int .i64 0,AV.int .i64 0,AV.int .i64 0,AV.int .i64 0,AV.str ⟨#[]⟩,AV.str ⟨#[]⟩,AV.aA,AV.int .i64 0,AV.bool false,AV.aA,AV.int .i64 0,AV.int .i64 0,AV.int .i64 0,AV.int .i64 0,AV.int .i64 0,AV.aA,AV.int .i64 0,AV.int .i64 0,AV.aA,AV.aA,AV.aA,AV.aA,AV.aA,AV.aA,AV.aA,AV.aA,AV.int .i64 0] 0∧Bk h9 h.n (x.cs v0 v1 v2 v3 v4 v5 v6 v7 v8 v9 v10) 0∧Kp h7 h9 [h.n+1+1]∧ah h9 u (x.tasks.take i) G∧Own h7.n h9 G∧h7.n≤h9.n) ?_ ?_
 ·exact⟨_,_,rfl,Nat.zero_le _,iy (gG (by simp only[aJ,aN];omega)),aO,aO,((((Kp.refl _ _).qX (by simp) _).qX (by simp) _).push _),(gu (α:=Task) rfl).1,(gu (α:=Task) rfl).2 h7.n (Nat.le_refl _),by simp⟩
 rintro i vs h9 _ ⟨u,G,rfl,hi,b3,b1,b0,k9,ru,ou,n9⟩
 simp only[g0]
 have r99:=aK k9 r97 fun c hc hX=>by have:=lt9 c hc;have:=List.mem_singleton.1 hX;omega
 refine vs ?_
 refine br (fun hlt=>?_) (fun hge=>?_)
 ·obtain⟨t,ht,-,htk⟩:=aU (show i < x.tasks.length by omega)
  have hm:=dh (List.mem_of_getElem? ht)
  have hx2:Sz.sz t=Sz.sz t.s+(t.hand.length+szs t.hand):=rfl
  refine vs ?_
  refine dw r99 ht rfl ?_
  rintro b o _ Fi a ⟨y0,y1,H0,H1,rfl,rfl,t0,t1⟩ _
  (repeat' first|refine vs ?_|((with_reducible refine aG EN ?_);(refine aL (ab6 t (by omega) _ _ _ ⟨_,_,_,_,rfl,rfl,aB,aB⟩) ?_;rintro _ h10 ⟨e10,_,_,rfl,⟨w11,w12,G11,G12,rfl,rfl,q11,q12⟩,o11⟩;have n10:=e10.1;(try simp only[aJ,aN] at n10)))|fail)
  have oa:=fB o11
  have ob:=dI o11
  have od:=vH o11
  have hlen:(x.tasks.take i).length=i:=by rw[List.length_take];omega
  refine app1 (n:=h7.n) (xs:=x.tasks.take i) (Fx:=G) (a:=t) aB ⟨_,_,_,_,rfl,rfl,aB,aB⟩ ?_ aV rfl ?_ ?_ ?_
  ·exact(iI gN (iI gN gN od) j6).1
  ·rw[hlen];omega
  ·rw[hlen];omega
  intro u' h' F' ek kp r' o'
  have n12:=kp.1;(try simp only[aJ,aN] at n12)
  (repeat' first|refine vs ?_|fail)
  exact⟨by omega,u',F',rfl,by omega,aO,aO,aO,(bQ:Kp h7 h' [h.n+1+1]).qX (by simp) _,by rw[htk];exact aB,aY,by simp only[aN];omega⟩
 have hi2:i=x.tasks.length:=by omega
 subst hi2
 rw[List.take_length] at ru
 have o3a:=fB o3
 have o3b:=fB (dI o3)
 have o3c:=dI (dI o3)
 have d3:=vH o3
 have d4:=vH (dI o3)
 have d34:=XT d3
 have d35:=XR d3
 have aly:=aK k9 akE fun c hc hX=>by have:=akR c hc;have:=List.mem_singleton.1 hX;omega
 (repeat' first|refine vs ?_|fail)
 refine aL (adl x.aF (by omega) _ _ _ aB) ?_
 rintro w10 h10 ⟨e10,G10,q10,o10⟩
 have n10:=e10.1;(try simp only[aJ,aN] at n10)
 (repeat' first|refine vs ?_|fail)
 refine⟨rfl,_,rfl,((((Kp.ext (aI:Ext h h7) k9 (by simp;omega)).trans e10).upd (by simp only[aJ];omega) _).upd (by simp only[aJ];omega) _),_,_,rfl,⟨w0,w1,w2,w3,w4,w5,w6,w7,w8,u,w10,_,_,_,_,_,_,_,_,_,_,_,rfl,rfl,aB,aB,aB,aB,aB,aB,aB,aB,aB,aB,aB⟩,?_⟩
 exact(iI gN (iI gN (iI gN (iI gN (iI gN (iI gN (iI gN (iI gN (iI gN (iI gN gN j6) j6) j6) j6) j6) j6) j6) j6) j6) j6).1
end Go.Proofs.YtcgjihfngdhjjaaGreat
end
