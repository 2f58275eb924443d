import Derived.Test.YtkdjapahgmflbaaGreatDW85
set_option linter.unusedSimpArgs false
set_option linter.unusedVariables false
set_option maxHeartbeats 2000000
set_option maxRecDepth 20000
namespace Go.Proofs.YtkdjapahgmflbaaGreat
open Go Go.Ab
attribute[local irreducible] cZ
theorem U3 {id:Int} {l:List Ab.Timer} (h:∀ t∈l,ji id t=false):without id l=l:=by
 unfold without;rw[List.filter_eq_self];intro t ht;simp[h t ht]
theorem ajt {w:bX} {id:Int} (h:idx (ji id) (timers w) < 0):iE w id=w:=by
 have hn:=akE h
 have e:∀ L:List (List Ab.Timer),(∀ t∈L.flatten,ji id t=false)→L.map (without id)=L:=fun L hL=>by
  induction L with
  |nil=>rfl
  |cons a L ih=>
   rw[List.map_cons,ih fun t ht=>hL t (by simp[ht]),U3 fun t ht=>hL t (by simp[ht])]
 by_cases hw:jg w
 ·rw[LP hw,e w.near fun t ht=>hn t (by simp[timers,ht]),e w.far fun t ht=>hn t (by simp[timers,ht]),U3 fun t ht=>hn t (by simp[timers,ht])]
 ·exact LQ hw
section
variable{h:AH} {w:bX} {u0 u1 u2:AV} {f0 f1 f2:List Nat} {id:Int}
theorem agO (hs:Sz.sz w≤33554432) (r0:au h u0 w.near f0) (r1:au h u1 w.far f1) (r2:au h u2 w.rest f2):bN Tryz.prog KV [.agg (w.cs u0 u1 u2),.int .i64 id] h fun v h'=>∃ ok,uq bX h (iE w id) ok v h':=by
 have hs1:Sz.sz w≤67108864:=by omega
 have hsz:Sz.sz w=(w.near.length+szs w.near)+(w.far.length+szs w.far)+(w.rest.length+szs w.rest):=rfl
 refine ahT _ _ ?_
 unfold TV
 (repeat' first|refine vsx ?_|fail)
 refine aK (Dk w hs1 _ _ _ ⟨_,_,_,_,_,_,rfl,rfl,ah,ah,ah⟩) ?_
 rintro _ h1 ⟨e1,_,_,rfl,⟨a0,a1,a2,k0,k1,k2,rfl,rfl,q0,q1,q2⟩,oc⟩
 have n1:=e1.1;(try simp only[aH,aN] at n1)
 have lt0:=q0.lt;have lt1:=q1.lt;have lt2:=q2.lt
 have o0:=dA oc;have o1:=dA (bD oc);have o2:=bD (bD oc)
 have ocL:bO (h.n+1+1+1) h1 (k0++(k1++k2)):=⟨oc,fun d hd=>by
  rcases List.mem_append.1 hd with q|q
  ·exact lt0 d q
  rcases List.mem_append.1 q with q|q
  ·exact lt1 d q
  ·exact lt2 d q⟩
 have nz:h.n+1+1 ∉ k0++(k1++k2):=fun hm=>by have:=(oc.2 _ hm).1;simp at this;omega
 by_cases hw:jg w
 ·have hl0:=hw.2.1;have hl1:=hw.2.2.1
  (repeat' first|refine vsx ?_|((with_reducible refine aA lg ?_);(refine aS (sD hs1 ah ah ah) ?_ ?_<;>intro hn))|fail)
  all_goals try(exfalso;exact absurd hw (by assumption))
  refine aK (EW (w:=w) hs1 ah ah ah) ?_
  rintro v4 h4 ⟨e4,f4,q4,o4⟩
  have n4:=e4.1;(try simp only[aH,aN] at n4)
  by_cases hi:idx (ji id) (timers w) < 0
  ·rw[ajt hi]
   (repeat' first|refine vsw ?_|(refine br ?_ ?_<;>first|exact bo|intro _)|((with_reducible refine aA uW ?_);refine aJ (J3 q4) ?_)|fail)
   all_goals exact⟨rfl,_,rfl,false,aD,_,k0++(k1++k2),rfl,⟨_,_,_,_,_,_,rfl,rfl,ah,ah,ah⟩,(dN (iN e4 (jO ocL)) nz).1.mono (by omega) fun _ _=>rfl⟩
  ·rw[LP hw]
   (repeat' first|refine vsx ?_|(refine br ?_ ?_<;>first|exact bo|intro _)|((with_reducible refine aA uW ?_);refine aJ (J3 q4) ?_)|fail)
   obtain⟨base,eb⟩:∃ base,base=((h.push ⟨w.cs u0 u1 u2,0,0⟩).push ⟨[AV.int IntKind.i64 id],0,0⟩).push ⟨[AV.int IntKind.i64 0,AV.aC,AV.aC,AV.aC],0,0⟩:=⟨_,rfl⟩
   rw[←eb] at e1
   have nb:base.n=h.n+1+1+1:=by rw[eb];rfl
   have bxi:Bk base (h.push ⟨w.cs u0 u1 u2,0,0⟩).n [AV.int IntKind.i64 id] 0:=by rw[eb];exact jC fD
   have bx2:Bk base ((h.push ⟨w.cs u0 u1 u2,0,0⟩).push ⟨[AV.int IntKind.i64 id],0,0⟩).n [AV.int IntKind.i64 0,AV.aC,AV.aC,AV.aC] 0:=by rw[eb];exact fD
   have eh:Ext h base:=by rw[eb];exact aD
   have n1':base.n≤h1.n:=by omega
   have hbi:(h.push ⟨w.cs u0 u1 u2,0,0⟩).n < base.n:=by rw[nb];simp only[aH];omega
   clear eb r0 r1 r2
   have J0:CJ base h1.n w.now a0 a1 a2 (wi id 0 w.near) (wi id 0 w.far) w.rest h4:=⟨aD,n1',k0,k1,k2,dX e4 fD,by rw[Iz];exact ah,by rw[Iz];exact ah,ah,IC (by rw[nb];exact(iN e4 (jO ocL)).1) (fun d hd=>by have:=ocL.2 d hd;omega) (fun hm=>by have:=ocL.2 _ hm;omega)⟩
   refine aT 8 (fun i vs h2=>vs=[.int .i64 (i:Int)]∧CJ base h1.n w.now a0 a1 a2 (wi id i w.near) (wi id i w.far) w.rest h2) ⟨rfl,J0⟩ ?_
   clear J0 oc ocL lt0 lt1 lt2 o0 o1 o2 q0 q1 q2 e1 e4 q4 o4
   rintro i vs h2 hi ⟨rfl,J⟩
   simp only[g0]
   have hw0:=He (id:=id) (i:=i) (l:=w.near)
   have hw1:=He (id:=id) (i:=i) (l:=w.far)
   obtain⟨e2,hbc,G0,G1,G2,b2,p0,p1,p2,sp⟩:=(show _ from J)
   have n2:=e2.1
   have hb2:=b2.1
   refine br (fun hlt=>?_) (fun hge=>?_)
   ·obtain⟨x,hx,-,-⟩:=aP (show i < w.near.length by omega)
    obtain⟨y,hy,-,-⟩:=aP (show i < w.far.length by omega)
    obtain⟨b0,off,Fi,e0,ev,at0,re,oFi,hb0,NS,NW,stp⟩:=J.set0 (l':=without id x) (Hf hx)
    subst ev
    clear p0 p1 p2 sp
    (repeat' first|refine vsx ?_|refine ao4 ?_|fail)
    refine aK (I8 (p:=ji id) re oFi fun h' k=>JH (Ib k (pI (dX e2 bxi)) fun hm=>by have:=(oFi.2 _ hm).1;omega)) ?_
    rintro v' h3 ⟨e3,q3,o3⟩
    have n3:=e3.1
    (repeat' first|refine vsx ?_|refine ao4 ?_|fail)
    refine stp e3 q3 o3 (fun d hd=>.inl hd) fun h5 J4=>?_
    obtain⟨e4,-,G0',G1',G2',b4,-⟩:=(show _ from J4)
    have n4:=e4.1
    have hb4:=b4.1
    obtain⟨b0',off',Fi',e0',ev',an5,re',Ny,anS,amU,amV,Nq⟩:=J4.set1 (l':=without id y) (Hf hy)
    subst ev'
    clear J J4 stp at0 re oFi hb0 NS NW b2 e2 n2 e3
    (repeat' first|refine vsx ?_|refine ao4 ?_|fail)
    refine aK (I8 (p:=ji id) re' Ny fun h' k=>JH (Ib k (pI (dX e4 bxi)) fun hm=>by have:=(Ny.2 _ hm).1;omega)) ?_
    rintro v5 h6 ⟨e5,q5,o5⟩
    (repeat' first|refine vsx ?_|refine ao4 ?_|fail)
    refine Nq e5 q5 o5 (fun d hd=>.inl hd) fun h7 J6=>?_
    (repeat' first|refine vsx ?_|fail)
    refine⟨by omega,rfl,?_⟩
    rw[GZ hx,GZ hy] at J6
    exact J6
   ·have:i=8:=by omega
    subst this
    rw[X9 (by omega)] at p0 p1
    have c0:=(sp.own 0 _ rfl).2;have c1:=(sp.own 1 _ rfl).2;have c2:=(sp.own 2 _ rfl).2
    have oG2:=(sp.own 2 _ rfl).1.1
    (repeat' first|refine vsx ?_|fail)
    refine aK (I8 (p:=ji id) p2 oG2 fun h' k=>JH (Ib k (pI (dX e2 bxi)) fun hm=>by have:=(oG2.2 _ hm).1;omega)) ?_
    rintro v3 h3 ⟨e3,q3,o3⟩
    have n3:=e3.1
    have q3:au h3 v3 (without id w.rest) G2:=q3
    have d0:∀ d∈G0,d ∉ G2:=sp.dis 0 2 _ _ (by decide) rfl rfl
    have d1:∀ d∈G1,d ∉ G2:=sp.dis 1 2 _ _ (by decide) rfl rfl
    have oo:=(qH sp).1
    have nz:∀ m:List Nat,(∀ d∈m,base.n≤d)→((h.push ⟨w.cs u0 u1 u2,0,0⟩).push ⟨[AV.int IntKind.i64 id],0,0⟩).n ∉ m:=fun m hm q=>by have:=hm _ q;simp at this;omega
    have zA:=nz (G0++(G1++G2)) fun d hd=>(oo.2 d hd).1
    have z0:((h.push ⟨w.cs u0 u1 u2,0,0⟩).push ⟨[AV.int IntKind.i64 id],0,0⟩).n ∉ G0:=fun q=>zA (List.mem_append_left _ q)
    have z1:((h.push ⟨w.cs u0 u1 u2,0,0⟩).push ⟨[AV.int IntKind.i64 id],0,0⟩).n ∉ G1:=fun q=>zA (List.mem_append_right _ (List.mem_append_left _ q))
    have z3:((h.push ⟨w.cs u0 u1 u2,0,0⟩).push ⟨[AV.int IntKind.i64 id],0,0⟩).n ∉ G2:=fun q=>zA (List.mem_append_right _ (List.mem_append_right _ q))
    have cA:=(qH sp).2
    (repeat' first|refine vsx ?_|fail)
    have bx3:Bk h3 ((h.push ⟨w.cs u0 u1 u2,0,0⟩).push ⟨[AV.int IntKind.i64 id],0,0⟩).n [AV.int IntKind.i64 0,AV.aC,AV.aC,AV.aC] 0:=bF e3 (dX e2 bx2) z3
    (repeat' first|refine vsw ?_|fail)
    have eX:Ext h h3:=eh.trans (Kp.ext e2 e3 fun d hd=>(oG2.2 d hd).1)
    refine⟨rfl,_,rfl,_,aD,_,G0++(G1++G2),rfl,⟨_,_,_,_,_,_,rfl,rfl,?_,?_,?_⟩,?_⟩
    ·exact fC (fC (aL e3 p0 d0) c0) z0
    ·exact fC (fC (aL e3 p1 d1) c1) z1
    ·exact fC (fC q3 c2) z3
    ·have oL:bO base.n h3 (G0++(G1++G2)):=by
      have s3:iy base.n h3 h1.n [G0,G1,G2]:=sp.jG (i:=2) (h':=h3) (f:=G2) rfl (e3.mono fun x hx=>List.mem_cons_of_mem _ hx) ⟨o3,q3.lt⟩ c2 fun d hd=>.inl hd
      have:=s3.flat
      have e:[G0,G1,G2].flatten=G0++(G1++G2):=by simp
      rwa [e] at this
     have:=(dN (dN oL cA (k:=⟨[AV.int IntKind.i64 w.now,a0,a1,v3],0,0⟩)) zA (k:=⟨[AV.int IntKind.i64 w.now,a0,a1,v3],0,0⟩)).1
     exact this.mono (by omega) fun _ _=>rfl
 ·rw[LQ hw]
  (repeat' first|refine vsw ?_|((with_reducible refine aA lg ?_);(refine aS (sD hs1 ah ah ah) ?_ ?_<;>intro hn))|fail)
  all_goals try(exfalso;exact absurd (by assumption) hw)
  all_goals exact⟨rfl,_,rfl,false,aD,_,k0++(k1++k2),rfl,⟨_,_,_,_,_,_,rfl,rfl,ah,ah,ah⟩,(jO (dN ocL nz)).1.mono (by omega) fun _ _=>rfl⟩
end
end Go.Proofs.YtkdjapahgmflbaaGreat
