import Derived.Test.YtkdjapahgmflbaaGreatDW84
set_option linter.unusedSimpArgs false
set_option linter.unusedVariables false
set_option maxHeartbeats 2000000
set_option maxRecDepth 20000
namespace Go.Proofs.YtkdjapahgmflbaaGreat
open Go Go.Ab
attribute[local irreducible] cZ
section
def Tc (x0 x1:AV):Prog:=.op (.box x0) fun a=>.op (.alloc [.int .i64 0,.aC,.aC,.aC]) fun b=>Ld 4 a fun c=>Cl xD [c] fun c=>.op (.alloc [.int .i64 0,.aC,.aC,.aC]) fun d=>.op (.st 4 d c) fun _=>Ld 4 a fun c=>Cl kZ [c] fun c=>.op (.una .not c) fun c=>.ite c (Ld 4 d fun a=>.op (.st 4 b a) fun _=>.fin [.cn 4 b,.val (.bool false)]) (.loop [.int .i64 0] (fun b=>Bn .lss (g b 0) (.int .i64 8) fun c=>.ite c (.op (.fad 1 d) fun c=>.op (.ld1 c) fun e=>Lg 1 a fun f=>Ix 1 f (g b 0) fun f=>.op (.ld1 f) fun f=>Cl zQ [f,x1] fun f=>.chk (.ld1 c) e (Ix 1 e (g b 0) fun c=>.op (.st 1 c f) fun _=>.op (.fad 2 d) fun c=>.op (.ld1 c) fun d=>Lg 2 a fun a=>Ix 1 a (g b 0) fun a=>.op (.ld1 a) fun a=>Cl zQ [a,x1] fun a=>.chk (.ld1 c) d (Ix 1 d (g b 0) fun c=>.op (.st 1 c a) fun _=>Bn .add (g b 0) (.int .i64 1) fun a=>.leaf 0 [a]))) (.leaf 2 [g b 0])) fun c e=>aB c 1 (.leaf 1 e) (aB c 2 (Lg 3 a fun c=>Cl zQ [c,x1] fun c=>Sg 3 d c fun _=>Ld 4 d fun c=>Ld 4 d fun e=>Ld 4 a fun f=>Cl pX [e] fun e=>.chk (.ldn 4 d) c (.chk (.ldn 4 a) f (Ln 0 e fun a=>Cl pX [f] fun e=>.chk (.ldn 4 d) c (Ln 0 e fun d=>Bn .lss a d fun a=>.op (.st 4 b c) fun _=>.fin [.cn 4 b,.val a])))) .bad))
theorem ahi (x0 x1:AV):CC Tryz.prog KG [x0,x1] (Tc x0 x1):=cc Tryz.func335 [1,2,4,6,7] (fun r=>if r=7 then[(0,[]),(1,[]),(2,[]),(3,[]),(4,[]),(5,[]),(6,[]),(7,[]),(8,[]),(9,[1]),(10,[]),(11,[])] else if r=8 then[(0,[]),(1,[]),(2,[]),(3,[]),(4,[]),(5,[]),(6,[]),(7,[]),(8,[]),(9,[1]),(10,[]),(11,[])] else if r=10 then[(0,[]),(1,[]),(4,[]),(2,[0,4]),(3,[]),(5,[0]),(6,[]),(7,[]),(8,[]),(9,[])] else[])
def TV (x0 x1:AV):Prog:=.op (.box x0) fun a=>.op (.box x1) fun b=>.op (.alloc [.int .i64 0,.aC,.aC,.aC]) fun c=>Ld 4 a fun d=>Cl wY [d] fun d=>.op (.alloc [.int .i64 0,.aC,.aC,.aC]) fun e=>.op (.st 4 e d) fun _=>Ld 4 a fun d=>Cl lg [d] fun d=>.op (.una .not d) fun d=>.gop d false (.ldn 4 a) fun a=>.gop d false (.ld1 b) fun f=>.gop d false (.call vw [a]) fun a=>.kC d false (.ld1 b) f (.gop d false (.call uW [a,f]) fun a=>.gop d false (.bin 0 .lss a (.int .i64 0)) fun a=>Pk d (.bool true) a fun a=>.ite a (Ld 4 e fun a=>.op (.st 4 c a) fun _=>.fin [.cn 4 c,.val (.bool false)]) (.op (.kr JV [b]) fun a=>.loop [.int .i64 0] (fun b=>Bn .lss (g b 0) (.int .i64 8) fun c=>.ite c (.op (.fad 1 e) fun c=>.op (.ld1 c) fun d=>Lg 1 e fun f=>Ix 1 f (g b 0) fun f=>.op (.ld1 f) fun f=>Cl zM [f,a] fun f=>.chk (.ld1 c) d (Ix 1 d (g b 0) fun c=>.op (.st 1 c f) fun _=>.op (.fad 2 e) fun c=>.op (.ld1 c) fun d=>Lg 2 e fun e=>Ix 1 e (g b 0) fun e=>.op (.ld1 e) fun e=>Cl zM [e,a] fun a=>.chk (.ld1 c) d (Ix 1 d (g b 0) fun c=>.op (.st 1 c a) fun _=>Bn .add (g b 0) (.int .i64 1) fun a=>.leaf 0 [a]))) (.leaf 2 [g b 0])) fun b d=>aB b 1 (.leaf 1 d) (aB b 2 (Lg 3 e fun b=>Cl zM [b,a] fun a=>Sg 3 e a fun _=>Ld 4 e fun a=>.op (.st 4 c a) fun _=>.fin [.cn 4 c,.val (.bool true)]) .bad)))
theorem ahT (x0 x1:AV):CC Tryz.prog KV [x0,x1] (TV x0 x1):=cc Tryz.func232 [4,6,7,8] (fun r=>if r=2 then[(0,[]),(1,[]),(2,[]),(3,[]),(4,[]),(6,[]),(5,[6]),(7,[]),(8,[]),(9,[])] else if r=8 then[(0,[]),(1,[]),(2,[]),(3,[]),(4,[]),(5,[]),(6,[]),(7,[]),(8,[]),(9,[1]),(10,[]),(11,[])] else if r=9 then[(0,[]),(1,[]),(2,[]),(3,[]),(4,[]),(5,[]),(6,[]),(7,[]),(8,[]),(9,[1]),(10,[]),(11,[])] else[])
end
theorem aj8 (w:bX) (id:Int):Sz.sz (⟨w.now,w.near.map (without id),w.far.map (without id),without id w.rest⟩:bX)≤Sz.sz w:=by
 have hsz:∀ w:bX,Sz.sz w=(w.near.length+szs w.near)+(w.far.length+szs w.far)+(w.rest.length+szs w.rest):=fun _=>rfl
 have h0:∀ l:List Ab.Timer,szs l=0:=fun l=>by
  induction l with
  |nil=>rfl
  |cons a l ih=>show Sz.sz a+szs l=0;rw[ih];rfl
 have h1:∀ l:List (List Ab.Timer),szs (l.map (without id))≤szs l:=fun l=>by
  induction l with
  |nil=>exact Nat.le_refl _
  |cons a l ih=>
   have e:∀ a:List Ab.Timer,Sz.sz a=a.length+szs a:=fun _=>rfl
   have:=K6 (id:=id) (l:=a)
   show Sz.sz (without id a)+szs (l.map (without id))≤Sz.sz a+szs l
   rw[e,e,h0,h0];omega
 have:=h1 w.near;have:=h1 w.far;have:=K6 (id:=id) (l:=w.rest)
 rw[hsz,hsz,h0,h0]
 simp only[List.length_map];omega
theorem LQ {w:bX} {id:Int} (h: ¬ jg w):iE w id=w:=by unfold iE;rw[if_neg (by rw[gu h];decide)]
theorem LP {w:bX} {id:Int} (h:jg w):iE w id=⟨w.now,w.near.map (without id),w.far.map (without id),without id w.rest⟩:=by unfold iE;rw[if_pos (fI h)]
section
variable{h:AH} {w:bX} {u0 u1 u2:AV} {f0 f1 f2:List Nat} {id:Int}
theorem agn (hs:Sz.sz w≤33554432) (r0:au h u0 w.near f0) (r1:au h u1 w.far f1) (r2:au h u2 w.rest f2):bN Tryz.prog KG [.agg (w.cs u0 u1 u2),.int .i64 id] h fun v h'=>∃ ok,uq bX h (iE w id) ok v h':=by
 have hs1:Sz.sz w≤67108864:=by omega
 have hsz:Sz.sz w=(w.near.length+szs w.near)+(w.far.length+szs w.far)+(w.rest.length+szs w.rest):=rfl
 refine ahi _ _ ?_
 unfold Tc
 (repeat' first|refine vsx ?_|fail)
 refine aK (EP w hs1 _ _ _ ⟨_,_,_,_,_,_,rfl,rfl,ah,ah,ah⟩) ?_
 rintro _ h1 ⟨e1,_,_,rfl,⟨a0,a1,a2,k0,k1,k2,rfl,rfl,q0,q1,q2⟩,oc⟩
 have n1:=e1.1;(try simp only[aH,aN] at n1)
 have lt0:=q0.lt;have lt1:=q1.lt;have lt2:=q2.lt
 have o0:=dA oc;have o1:=dA (bD oc);have o2:=bD (bD oc)
 have ocL:bO (h.n+1+1) h1 (k0++(k1++k2)):=⟨oc,fun d hd=>by
  rcases List.mem_append.1 hd with q|q
  ·exact lt0 d q
  rcases List.mem_append.1 q with q|q
  ·exact lt1 d q
  ·exact lt2 d q⟩
 by_cases hw:jg w
 ·rw[LP hw]
  have hl0:=hw.2.1;have hl1:=hw.2.2.1
  (repeat' first|refine vsx ?_|((with_reducible refine aA kZ ?_);(refine aS (sw hs1 ah ah ah) ?_ ?_<;>intro hn))|fail)
  all_goals try(exfalso;exact absurd hw (by assumption))
  obtain⟨base,eb⟩:∃ base,base=(h.push ⟨w.cs u0 u1 u2,0,0⟩).push ⟨[AV.int IntKind.i64 0,AV.aC,AV.aC,AV.aC],0,0⟩:=⟨_,rfl⟩
  rw[←eb] at e1
  have nb:base.n=h.n+1+1:=by rw[eb];rfl
  have bx1:Bk base h.n [.int .i64 w.now,u0,u1,u2] 0:=by rw[eb];exact jC fD
  have bx2:Bk base (h.push ⟨w.cs u0 u1 u2,0,0⟩).n [AV.int IntKind.i64 0,AV.aC,AV.aC,AV.aC] 0:=by rw[eb];exact fD
  have eh:Ext h base:=by rw[eb];exact aD
  have r0:au base u0 w.near f0:=r0.ext eh
  have r1:au base u1 w.far f1:=r1.ext eh
  have r2:au base u2 w.rest f2:=r2.ext eh
  have n1':base.n≤h1.n:=by omega
  clear eb
  have J0:CJ base h1.n w.now a0 a1 a2 (wi id 0 w.near) (wi id 0 w.far) w.rest (h1.push ⟨[.int .i64 w.now,a0,a1,a2],0,0⟩):=⟨aD,n1',k0,k1,k2,fD,by rw[Iz];exact ah,by rw[Iz];exact ah,ah,IC (by rw[nb];exact(jO ocL).1) (fun d hd=>by have:=ocL.2 d hd;simp;omega) (fun hm=>by have:=ocL.2 _ hm;omega)⟩
  refine aT 8 (fun i vs h2=>vs=[.int .i64 (i:Int)]∧CJ base h1.n w.now a0 a1 a2 (wi id i w.near) (wi id i w.far) w.rest h2) ⟨rfl,J0⟩ ?_
  clear J0 oc ocL lt0 lt1 lt2 o0 o1 o2 q0 q1 q2
  rintro i vs h2 hi ⟨rfl,J⟩
  simp only[g0]
  have hw0:=He (id:=id) (i:=i) (l:=w.near)
  have hw1:=He (id:=id) (i:=i) (l:=w.far)
  obtain⟨e2,hbc,G0,G1,G2,b2,p0,p1,p2,sp⟩:=(show _ from J)
  have n2:=e2.1
  have hb2:=b2.1
  refine br (fun hlt=>?_) (fun hge=>?_)
  ·obtain⟨x,hx,-,-⟩:=aP (show i < w.near.length by omega)
   obtain⟨y,hy,-,-⟩:=aP (show i < w.far.length by omega)
   have hxl:Sz.sz x≤szs w.near:=bC (List.mem_of_getElem? hx)
   have hyl:Sz.sz y≤szs w.far:=bC (List.mem_of_getElem? hy)
   have hxs:Sz.sz x=x.length+szs x:=rfl
   have hys:Sz.sz y=y.length+szs y:=rfl
   obtain⟨b0,off,Fi,e0,ev,at0,re,oFi,hb0,NS,NW,stp⟩:=J.set0 (l':=without id x) (Hf hx)
   subst ev
   clear p0 p1 p2 sp
   (repeat' first|refine vsx ?_|((with_reducible refine aY ?_);((refine ix ?_);rintro _ _ _ _ _ ⟨_,rfl,_⟩ _))|fail)
   refine aK (Jk (xs:=x) (id:=id) ah (by omega)) ?_
   rintro v' h3 ⟨e3,f3,q3,o3⟩
   (repeat' first|refine vsx ?_|refine ao4 ?_|fail)
   refine stp (Kp.iA e3) q3 (o3.mono (by omega) fun _ _=>rfl) (fun d hd=>.inr (o3.2 d hd).1) fun h4 J4=>?_
   obtain⟨e4,-,G0',G1',G2',b4,-⟩:=(show _ from J4)
   have n4:=e4.1
   obtain⟨b0',off',Fi',e0',ev',an5,re',Ny,anS,amU,amV,Nq⟩:=J4.set1 (l':=without id y) (Hf hy)
   subst ev'
   clear J J4 stp at0 re oFi hb0 NS NW b2 e2 n2 e3
   (repeat' first|refine vsx ?_|((with_reducible refine aY ?_);((refine ix ?_);rintro _ _ _ _ _ ⟨_,rfl,_⟩ _))|fail)
   refine aK (Jk (xs:=y) (id:=id) ah (by omega)) ?_
   rintro v5 h5 ⟨e5,f5,q5,o5⟩
   (repeat' first|refine vsx ?_|refine ao4 ?_|fail)
   refine Nq (Kp.iA e5) q5 (o5.mono (by omega) fun _ _=>rfl) (fun d hd=>.inr (o5.2 d hd).1) fun h6 J6=>?_
   (repeat' first|refine vsx ?_|fail)
   refine⟨by omega,rfl,?_⟩
   rw[GZ hx,GZ hy] at J6
   exact J6
  ·have:i=8:=by omega
   subst this
   rw[X9 (by omega)] at p0 p1
   have c0:=(sp.own 0 _ rfl).2;have c1:=(sp.own 1 _ rfl).2;have c2:=(sp.own 2 _ rfl).2
   have hcs:=aj8 w id
   (repeat' first|refine vsx ?_|fail)
   refine aK (Jk (xs:=w.rest) (id:=id) ah (by omega)) ?_
   rintro v3 h3 ⟨e3,f3,q3,o3⟩
   have n3:=e3.1
   have c3:h1.n ∉ f3:=fun hm=>by have:=(o3.2 _ hm).1;have:=b2.1;omega
   (repeat' first|refine vsx ?_|fail)
   refine aK (xC (F0:=G0) (F1:=G1) (F2:=f3) (w:=⟨w.now,w.near.map (without id),w.far.map (without id),without id w.rest⟩) (by omega) (fC (jM e3 p0) c0) (fC (jM e3 p1) c1) (fC q3 c3)) ?_
   rintro v4 h4 ⟨e4,f4,q4,o4⟩
   have n4:=e4.1;(try simp only[aH,aN] at n4)
   (repeat' first|refine vsx ?_|fail)
   refine aK (xC (w:=w) (by omega) ah ah ah) ?_
   rintro v5 h5 ⟨e5,f5,q5,o5⟩
   have n5:=e5.1
   have oo:Own base.n h2 (G0++G1):=by have:=(qH sp).1;rw[←List.append_assoc] at this;exact dA this
   have d3:∀ d∈G0++G1,d ∉ f3:=fun d hd hm=>by
    have:=(o3.2 d hm).1
    rcases List.mem_append.1 hd with q|q
    ·have:=p0.lt d q;omega
    ·have:=p1.lt d q;omega
   have nz:∀ m:List Nat,(∀ d∈m,base.n≤d)→(h.push ⟨w.cs u0 u1 u2,0,0⟩).n ∉ m:=fun m hm q=>by have:=hm _ q;simp at this;omega
   have z0:=nz G0 fun d hd=>(oo.2 d (List.mem_append_left _ hd)).1
   have z1:=nz G1 fun d hd=>(oo.2 d (List.mem_append_right _ hd)).1
   have z3:=nz f3 fun d hd=>by have:=(o3.2 d hd).1;omega
   (repeat' first|refine vsw ?_|(refine br ?_ ?_<;>first|exact bx|intro _)|fail)
   all_goals
    refine⟨rfl,_,rfl,_,aD,_,G0++(G1++f3),rfl,⟨_,_,_,_,_,_,rfl,rfl,?_,?_,?_⟩,?_⟩
    ·exact fC (jM e5 (jM e4 (fC (jM e3 p0) c0))) z0
    ·exact fC (jM e5 (jM e4 (fC (jM e3 p1) c1))) z1
    ·exact fC (jM e5 (jM e4 (fC q3 c3))) z3
    ·have zz:(h.push ⟨w.cs u0 u1 u2,0,0⟩).n ∉ (G0++G1)++f3:=fun q=>by
      rcases List.mem_append.1 q with q|q
      ·exact(List.mem_append.1 q).elim z0 z1
      ·exact z3 q
     have cc:h1.n ∉ (G0++G1)++f3:=fun q=>by
      rcases List.mem_append.1 q with q|q
      ·exact(List.mem_append.1 q).elim c0 c1
      ·exact c3 q
     have lL:∀ d∈G0++G1,d < h2.n:=fun d hd=>(List.mem_append.1 hd).elim (p0.lt d) (p1.lt d)
     have o6:bO base.n h3 ((G0++G1)++f3):=⟨fK (iN e3 ⟨oo,lL⟩).1 o3 (by omega) d3,fun d hd=>(List.mem_append.1 hd).elim (fun q=>by have:=lL d q;omega) (q3.lt d)⟩
     have:=(dN (iN e5 (iN e4 (dN (k:=⟨[AV.int IntKind.i64 w.now,a0,a1,v3],0,0⟩) o6 cc))) zz (k:=⟨[AV.int IntKind.i64 w.now,a0,a1,v3],0,0⟩)).1
     rw[←List.append_assoc]
     exact this.mono (by omega) fun _ _=>rfl
 ·rw[LQ hw]
  (repeat' first|refine vsw ?_|((with_reducible refine aA kZ ?_);(refine aS (sw hs1 ah ah ah) ?_ ?_<;>intro hn))|fail)
  all_goals try(exfalso;exact absurd (by assumption) hw)
  have nz:h.n+1 ∉ k0++(k1++k2):=fun hm=>by have:=(oc.2 _ hm).1;simp at this;omega
  exact⟨rfl,_,rfl,false,aD,_,k0++(k1++k2),rfl,⟨_,_,_,_,_,_,rfl,rfl,ah,ah,ah⟩,(jO (dN ocL nz)).1.mono (by omega) fun _ _=>rfl⟩
end
end Go.Proofs.YtkdjapahgmflbaaGreat
