import Derived.Test.YtkdjapahgmflbaaGreatDW82
set_option linter.unusedSimpArgs false
set_option linter.unusedVariables false
set_option maxHeartbeats 2000000
set_option maxRecDepth 20000
namespace Go.Proofs.YtkdjapahgmflbaaGreat
open Go Go.Ab
attribute[local irreducible] cZ
section
def Vj (x0 x1:AV):Prog:=.op (.box x0) fun a=>.op (.box x1) fun b=>.op (.alloc [.int .i64 0,.aC,.aC,.aC]) fun c=>Ld 4 a fun d=>Cl xD [d] fun d=>.op (.alloc [.int .i64 0,.aC,.aC,.aC]) fun e=>.op (.st 4 e d) fun _=>Ld 4 a fun d=>Cl kZ [d] fun d=>.op (.una .not d) fun d=>Gf d false 2 b fun f=>Gf d false 0 a fun i=>.gop d false (.bin 0 .leq f i) fun f=>Pk d (.bool true) f fun d=>Gf d false 2 b fun f=>.gop d false (.bin 0 .gtr f (.int .i64 2147483647)) fun f=>Pk d (.bool true) f fun d=>.ite d (Ld 4 e fun a=>.op (.st 4 c a) fun _=>.fin [.cn 4 c,.val (.bool false)]) (Ld 3 b fun b=>Cl KW [e,b] fun _=>Ld 4 e fun b=>Cl kZ [b] fun b=>.op (.una .not b) fun b=>.ite b (Ld 4 a fun a=>Cl xD [a] fun a=>.op (.st 4 c a) fun _=>.fin [.cn 4 c,.val (.bool false)]) (Ld 4 e fun a=>.op (.st 4 c a) fun _=>.fin [.cn 4 c,.val (.bool true)]))
theorem ajw (x0 x1:AV):CC Tryz.prog Ll [x0,x1] (Vj x0 x1):=cc Tryz.func331
def Vq (x0 x1:AV):Prog:=.op (.box x0) fun a=>.op (.box x1) fun b=>.op (.alloc [.int .i64 0,.aC,.aC,.aC]) fun c=>Ld 4 a fun d=>Cl wY [d] fun d=>.op (.alloc [.int .i64 0,.aC,.aC,.aC]) fun e=>.op (.st 4 e d) fun _=>Ld 4 a fun d=>Cl lg [d] fun d=>.op (.una .not d) fun d=>Gf d false 2 b fun f=>Gf d false 0 a fun i=>.gop d false (.bin 0 .add i (.int .i64 1)) fun i=>.gop d false (.call bq [f,i,.int .i64 2147483647]) fun f=>.gop d false (.una .not f) fun f=>Pk d (.bool true) f fun d=>.ite d (Ld 4 e fun a=>.op (.st 4 c a) fun _=>.fin [.cn 4 c,.val (.bool false)]) (Ld 3 b fun b=>Cl Lm [e,b] fun _=>Ld 4 e fun b=>Cl lg [b] fun b=>.op (.una .not b) fun b=>.ite b (Ld 4 a fun a=>Cl wY [a] fun a=>.op (.st 4 c a) fun _=>.fin [.cn 4 c,.val (.bool false)]) (Ld 4 e fun a=>.op (.st 4 c a) fun _=>.fin [.cn 4 c,.val (.bool true)]))
theorem ajD (x0 x1:AV):CC Tryz.prog Lp [x0,x1] (Vq x0 x1):=cc Tryz.func320
end
theorem XH (w:bX) (t:Ab.Timer):Sz.sz (fH w t)≤Sz.sz w+1:=by
 have hsz:∀ w:bX,Sz.sz w=(w.near.length+szs w.near)+(w.far.length+szs w.far)+(w.rest.length+szs w.rest):=fun _=>rfl
 have up:∀ (l:List (List Ab.Timer)) (i:Nat),(upd l i (· ++[t])).length+szs (upd l i (· ++[t]))≤l.length+szs l+1:=by
  intro l i
  rw[Xh]
  cases hi:l[i]? with
  |none=>unfold upd;rw[hi];show l.length+szs l≤l.length+szs l+1;omega
  |some a=>
   rw[iQ hi]
   have h1:∀ (l:List (List Ab.Timer)) (i:Nat) (a:List Ab.Timer),l[i]? =some a→szs (l.set i (a++[t]))≤szs l+1:=by
    intro l
    induction l with
    |nil=>intro i a h;cases h
    |cons b l ih=>
     intro i a h
     cases i with
     |zero=>
      cases h
      have e:Sz.sz (b++[t])=(b++[t]).length+szs (b++[t]):=rfl
      have e2:Sz.sz b=b.length+szs b:=rfl
      have e3:szs ([t]:List Ab.Timer)=0:=rfl
      show Sz.sz (b++[t])+szs l≤Sz.sz b+szs l+1
      rw[e,e2,yG,e3,List.length_append,List.length_singleton];omega
     |succ i=>have:=ih i a h;show Sz.sz b+szs (l.set i (a++[t]))≤Sz.sz b+szs l+1;omega
   have:=h1 l i a hi
   omega
 unfold fH
 split
 ·have:=up w.near (t.at_ % 8).toNat;rw[hsz,hsz];simp only;omega
 ·split
  ·have:=up w.far (t.at_ / 8 % 8).toNat;rw[hsz,hsz];simp only;omega
  ·have e3:szs ([t]:List Ab.Timer)=0:=rfl
   rw[hsz,hsz];simp only[yG,e3,List.length_append,List.length_singleton];omega
section
variable{h:AH} {w:bX} {u0 u1 u2:AV} {f0 f1 f2:List Nat} {t:Ab.Timer}
theorem ai7 (hs:Sz.sz w≤33554432) (r0:au h u0 w.near f0) (r1:au h u1 w.far f1) (r2:au h u2 w.rest f2):bN Tryz.prog Ll [.agg (w.cs u0 u1 u2),.agg t.cs] h (uq bX h (fA w t) (rE w t)):=by
 have hs1:Sz.sz w≤67108864:=by omega
 have hs2:Sz.sz (fH w t)≤67108864:=by have:=XH w t;omega
 refine ajw _ _ ?_
 unfold Vj
 (repeat' first|refine vsx ?_|fail)
 refine aK (EP w hs1 _ _ _ ⟨_,_,_,_,_,_,rfl,rfl,ah,ah,ah⟩) ?_
 rintro _ h1 ⟨e1,_,_,rfl,⟨a0,a1,a2,g0,g1,g2,rfl,rfl,q0,q1,q2⟩,oc⟩
 have n1:=e1.1;(try simp only[aH,aN] at n1)
 have lt0:=q0.lt;have lt1:=q1.lt;have lt2:=q2.lt
 have o0:=dA oc;have o1:=dA (bD oc);have o2:=bD (bD oc)
 have ocL:bO (h.n+1+1+1) h1 (g0++(g1++g2)):=⟨oc,fun d hd=>by
  rcases List.mem_append.1 hd with q|q
  ·exact lt0 d q
  rcases List.mem_append.1 q with q|q
  ·exact lt1 d q
  ·exact lt2 d q⟩
 have nz:h.n+1+1 ∉ g0++(g1++g2):=fun hm=>by have:=(oc.2 _ hm).1;simp at this;omega
 by_cases hp:jg w∧w.now < t.at_∧t.at_≤2147483647
 ·have hw:=hp.1
  have kV:=hw.1
  (repeat' first|refine vsx ?_|(refine br ?_ ?_<;>first|exact bo|intro _)|((with_reducible refine aA kZ ?_);(refine aS (sw hs1 ah ah ah) ?_ ?_<;>intro hn))|fail)
  all_goals try(exfalso;exact absurd hp.1 (by assumption))
  refine aK (ahX (n:=h.n+1+1+1) (c:=h1.n) (w:=w) (t:=t) (fD:Bk _ h1.n [.int .i64 w.now,a0,a1,a2] 0) ah ah ah (jO ocL).1 (fun hm=>by have:=ocL.2 _ hm;omega) (by simp;omega) hw.1 ⟨hp.2.1,hp.2.2⟩ ⟨by have:=hw.2.1;omega,by have:=hw.2.2.1;omega⟩ hs1) ?_
  rintro _ h2 ⟨rfl,a3,a4,a5,g3,g4,g5,b2,q3,q4,q5,oo,c2,k2,-⟩
  have b2:Bk h2 h1.n [.int .i64 (fH w t).now,a3,a4,a5] 0:=b2
  have e3:Ext (((h.push ⟨w.cs u0 u1 u2,0,0⟩).push ⟨t.cs,0,0⟩).push ⟨[AV.int IntKind.i64 0,AV.aC,AV.aC,AV.aC],0,0⟩) h2:=Kp.ext (aD:Ext _ (h1.push ⟨[.int .i64 w.now,a0,a1,a2],0,0⟩)) k2 fun x hx=>by
   rcases List.mem_cons.1 hx with q|q
   ·subst q;simpa using n1
   ·simpa using(oc.2 x q).1
  have n2:=e3.1;(try simp only[aH,aN] at n2)
  have ll3:=q3.lt;have ll4:=q4.lt;have ll5:=q5.lt
  have p0:=dA oo;have p1:=dA (bD oo);have p2:=bD (bD oo)
  have ooL:bO (h.n+1+1+1) h2 (g3++(g4++g5)):=⟨oo,fun d hd=>by
   rcases List.mem_append.1 hd with q|q
   ·exact ll3 d q
   rcases List.mem_append.1 q with q|q
   ·exact ll4 d q
   ·exact ll5 d q⟩
  have bx3:Bk h2 ((h.push ⟨w.cs u0 u1 u2,0,0⟩).push ⟨t.cs,0,0⟩).n [AV.int IntKind.i64 0,AV.aC,AV.aC,AV.aC] 0:=dX e3 fD
  have nz2:h.n+1+1 ∉ g3++(g4++g5):=fun hm=>by have:=(oo.2 _ hm).1;omega
  by_cases hp2:jg (fH w t)
  ·have eB:rE w t=true:=fI ⟨hp,hp2⟩
   have eW:fA w t=fH w t:=by unfold fA;rw[if_pos eB]
   rw[eB,eW]
   (repeat' first|refine vsw ?_|((with_reducible refine aA kZ ?_);(refine aS (sw (w:=fH w t) hs2 ah ah ah) ?_ ?_<;>intro hn))|fail)
   all_goals try(exfalso;exact absurd hp2 (by assumption))
   exact⟨rfl,_,rfl,aD,_,g3++(g4++g5),rfl,⟨_,_,_,_,_,_,rfl,rfl,ah,ah,ah⟩,(dN ooL nz2).1.mono (by omega) fun _ _=>rfl⟩
  ·have eB:rE w t=false:=gu fun c=>hp2 c.2
   have eW:fA w t=w:=by unfold fA;rw[if_neg (by rw[eB];decide)]
   rw[eB,eW]
   have bx1:Bk h2 h.n [.int .i64 w.now,u0,u1,u2] 0:=dX e3 (jC (jC fD))
   have r0':au h2 u0 w.near f0:=r0.ext aD
   have r1':au h2 u1 w.far f1:=r1.ext aD
   have r2':au h2 u2 w.rest f2:=r2.ext aD
   (repeat' first|refine vsx ?_|((with_reducible refine aA kZ ?_);(refine aS (sw (w:=fH w t) hs2 ah ah ah) ?_ ?_<;>intro hn))|fail)
   all_goals try(exfalso;exact absurd (by assumption) hp2)
   refine aK (EP w hs1 _ _ _ ⟨_,_,_,_,_,_,rfl,rfl,ah,ah,ah⟩) ?_
   rintro _ h4 ⟨e4,_,_,rfl,⟨a6,a7,a8,g6,g7,g8,rfl,rfl,q6,q7,q8⟩,od⟩
   have n4:=e4.1;(try simp only[aH,aN] at n4)
   have s0:=dA od;have s1:=dA (bD od);have s2:=bD (bD od)
   have odL:bO h2.n h4 (g6++(g7++g8)):=⟨od,fun d hd=>by
    rcases List.mem_append.1 hd with q|q
    ·exact q6.lt d q
    rcases List.mem_append.1 q with q|q
    ·exact q7.lt d q
    ·exact q8.lt d q⟩
   have nz4:h.n+1+1 ∉ g6++(g7++g8):=fun hm=>by have:=(od.2 _ hm).1;omega
   (repeat' first|refine vsw ?_|fail)
   exact⟨rfl,_,rfl,aD,_,g6++(g7++g8),rfl,⟨_,_,_,_,_,_,rfl,rfl,ah,ah,ah⟩,(dN odL nz4).1.mono (by omega) fun _ _=>rfl⟩
 ·have eB:rE w t=false:=gu fun c=>hp c.1
  have eW:fA w t=w:=by unfold fA;rw[if_neg (by rw[eB];decide)]
  rw[eB,eW]
  by_cases hw:jg w
  ·have kV:=hw.1
   (repeat' first|refine vsw ?_|(refine br ?_ ?_<;>first|exact bx|intro _)|((with_reducible refine aA kZ ?_);(refine aS (sw hs1 ah ah ah) ?_ ?_<;>intro hn))|fail)
   all_goals try(exfalso;first|exact absurd hw (by assumption)|exact hp ⟨hw,by omega,by omega⟩)
   all_goals exact⟨rfl,_,rfl,aD,_,g0++(g1++g2),rfl,⟨_,_,_,_,_,_,rfl,rfl,ah,ah,ah⟩,(jO (dN ocL nz)).1.mono (by omega) fun _ _=>rfl⟩
  ·(repeat' first|refine vsw ?_|(refine br ?_ ?_<;>intro _<;>try(exfalso;contradiction))|((with_reducible refine aA kZ ?_);(refine aS (sw hs1 ah ah ah) ?_ ?_<;>intro hn))|fail)
   all_goals try(exfalso;exact absurd (by assumption) hw)
   all_goals exact⟨rfl,_,rfl,aD,_,g0++(g1++g2),rfl,⟨_,_,_,_,_,_,rfl,rfl,ah,ah,ah⟩,(jO (dN ocL nz)).1.mono (by omega) fun _ _=>rfl⟩
theorem ajb (hs:Sz.sz w≤33554432) (r0:au h u0 w.near f0) (r1:au h u1 w.far f1) (r2:au h u2 w.rest f2):bN Tryz.prog Lp [.agg (w.cs u0 u1 u2),.agg t.cs] h (uq bX h (fA w t) (rE w t)):=by
 have hs1:Sz.sz w≤67108864:=by omega
 have hs2:Sz.sz (fH w t)≤67108864:=by have:=XH w t;omega
 refine ajD _ _ ?_
 unfold Vq
 (repeat' first|refine vsx ?_|fail)
 refine aK (Dk w hs1 _ _ _ ⟨_,_,_,_,_,_,rfl,rfl,ah,ah,ah⟩) ?_
 rintro _ h1 ⟨e1,_,_,rfl,⟨a0,a1,a2,g0,g1,g2,rfl,rfl,q0,q1,q2⟩,oc⟩
 have n1:=e1.1;(try simp only[aH,aN] at n1)
 have lt0:=q0.lt;have lt1:=q1.lt;have lt2:=q2.lt
 have o0:=dA oc;have o1:=dA (bD oc);have o2:=bD (bD oc)
 have ocL:bO (h.n+1+1+1) h1 (g0++(g1++g2)):=⟨oc,fun d hd=>by
  rcases List.mem_append.1 hd with q|q
  ·exact lt0 d q
  rcases List.mem_append.1 q with q|q
  ·exact lt1 d q
  ·exact lt2 d q⟩
 have nz:h.n+1+1 ∉ g0++(g1++g2):=fun hm=>by have:=(oc.2 _ hm).1;simp at this;omega
 by_cases hp:jg w∧w.now < t.at_∧t.at_≤2147483647
 ·have hw:=hp.1
  have kV:=hw.1
  (repeat' first|refine vsx ?_|((with_reducible refine aA lg ?_);(refine aS (sD hs1 ah ah ah) ?_ ?_<;>intro hn))|((with_reducible refine aA bq ?_);(refine bU (eZ) ?_ ?_<;>intro hb<;>(first|replace hb:=dx hb|replace hb:=dz hb)))|fail)
  all_goals try(exfalso;first|exact absurd hp.1 (by assumption)|omega)
  refine aK (aja (n:=h.n+1+1+1) (c:=h1.n) (w:=w) (t:=t) (fD:Bk _ h1.n [.int .i64 w.now,a0,a1,a2] 0) ah ah ah (jO ocL).1 (fun hm=>by have:=ocL.2 _ hm;omega) (by simp;omega) hw.1 ⟨hp.2.1,hp.2.2⟩ ⟨by have:=hw.2.1;omega,by have:=hw.2.2.1;omega⟩ hs1) ?_
  rintro _ h2 ⟨rfl,a3,a4,a5,g3,g4,g5,b2,q3,q4,q5,oo,c2,k2,-⟩
  have b2:Bk h2 h1.n [.int .i64 (fH w t).now,a3,a4,a5] 0:=b2
  have e3:Ext (((h.push ⟨w.cs u0 u1 u2,0,0⟩).push ⟨t.cs,0,0⟩).push ⟨[AV.int IntKind.i64 0,AV.aC,AV.aC,AV.aC],0,0⟩) h2:=Kp.ext (aD:Ext _ (h1.push ⟨[.int .i64 w.now,a0,a1,a2],0,0⟩)) k2 fun x hx=>by
   rcases List.mem_cons.1 hx with q|q
   ·subst q;simpa using n1
   ·simpa using(oc.2 x q).1
  have n2:=e3.1;(try simp only[aH,aN] at n2)
  have ll3:=q3.lt;have ll4:=q4.lt;have ll5:=q5.lt
  have p0:=dA oo;have p1:=dA (bD oo);have p2:=bD (bD oo)
  have ooL:bO (h.n+1+1+1) h2 (g3++(g4++g5)):=⟨oo,fun d hd=>by
   rcases List.mem_append.1 hd with q|q
   ·exact ll3 d q
   rcases List.mem_append.1 q with q|q
   ·exact ll4 d q
   ·exact ll5 d q⟩
  have bx3:Bk h2 ((h.push ⟨w.cs u0 u1 u2,0,0⟩).push ⟨t.cs,0,0⟩).n [AV.int IntKind.i64 0,AV.aC,AV.aC,AV.aC] 0:=dX e3 fD
  have nz2:h.n+1+1 ∉ g3++(g4++g5):=fun hm=>by have:=(oo.2 _ hm).1;omega
  by_cases hp2:jg (fH w t)
  ·have eB:rE w t=true:=fI ⟨hp,hp2⟩
   have eW:fA w t=fH w t:=by unfold fA;rw[if_pos eB]
   rw[eB,eW]
   (repeat' first|refine vsw ?_|((with_reducible refine aA lg ?_);(refine aS (sD (w:=fH w t) hs2 ah ah ah) ?_ ?_<;>intro hn))|fail)
   all_goals try(exfalso;exact absurd hp2 (by assumption))
   exact⟨rfl,_,rfl,aD,_,g3++(g4++g5),rfl,⟨_,_,_,_,_,_,rfl,rfl,ah,ah,ah⟩,(dN ooL nz2).1.mono (by omega) fun _ _=>rfl⟩
  ·have eB:rE w t=false:=gu fun c=>hp2 c.2
   have eW:fA w t=w:=by unfold fA;rw[if_neg (by rw[eB];decide)]
   rw[eB,eW]
   have bx1:Bk h2 h.n [.int .i64 w.now,u0,u1,u2] 0:=dX e3 (jC (jC fD))
   have r0':au h2 u0 w.near f0:=r0.ext aD
   have r1':au h2 u1 w.far f1:=r1.ext aD
   have r2':au h2 u2 w.rest f2:=r2.ext aD
   (repeat' first|refine vsx ?_|((with_reducible refine aA lg ?_);(refine aS (sD (w:=fH w t) hs2 ah ah ah) ?_ ?_<;>intro hn))|fail)
   all_goals try(exfalso;exact absurd (by assumption) hp2)
   refine aK (Dk w hs1 _ _ _ ⟨_,_,_,_,_,_,rfl,rfl,ah,ah,ah⟩) ?_
   rintro _ h4 ⟨e4,_,_,rfl,⟨a6,a7,a8,g6,g7,g8,rfl,rfl,q6,q7,q8⟩,od⟩
   have n4:=e4.1;(try simp only[aH,aN] at n4)
   have s0:=dA od;have s1:=dA (bD od);have s2:=bD (bD od)
   have odL:bO h2.n h4 (g6++(g7++g8)):=⟨od,fun d hd=>by
    rcases List.mem_append.1 hd with q|q
    ·exact q6.lt d q
    rcases List.mem_append.1 q with q|q
    ·exact q7.lt d q
    ·exact q8.lt d q⟩
   have nz4:h.n+1+1 ∉ g6++(g7++g8):=fun hm=>by have:=(od.2 _ hm).1;omega
   (repeat' first|refine vsw ?_|fail)
   exact⟨rfl,_,rfl,aD,_,g6++(g7++g8),rfl,⟨_,_,_,_,_,_,rfl,rfl,ah,ah,ah⟩,(dN odL nz4).1.mono (by omega) fun _ _=>rfl⟩
 ·have eB:rE w t=false:=gu fun c=>hp c.1
  have eW:fA w t=w:=by unfold fA;rw[if_neg (by rw[eB];decide)]
  rw[eB,eW]
  by_cases hw:jg w
  ·have kV:=hw.1
   (repeat' first|refine vsw ?_|((with_reducible refine aA lg ?_);(refine aS (sD hs1 ah ah ah) ?_ ?_<;>intro hn))|((with_reducible refine aA bq ?_);(refine bU (eZ) ?_ ?_<;>intro hb<;>(first|replace hb:=dx hb|replace hb:=dz hb)))|fail)
   all_goals try(exfalso;first|exact absurd hw (by assumption)|exact hp ⟨hw,by omega,by omega⟩)
   all_goals exact⟨rfl,_,rfl,aD,_,g0++(g1++g2),rfl,⟨_,_,_,_,_,_,rfl,rfl,ah,ah,ah⟩,(jO (dN ocL nz)).1.mono (by omega) fun _ _=>rfl⟩
  ·(repeat' first|refine vsw ?_|((with_reducible refine aA lg ?_);(refine aS (sD hs1 ah ah ah) ?_ ?_<;>intro hn))|fail)
   all_goals try(exfalso;exact absurd (by assumption) hw)
   all_goals exact⟨rfl,_,rfl,aD,_,g0++(g1++g2),rfl,⟨_,_,_,_,_,_,rfl,rfl,ah,ah,ah⟩,(jO (dN ocL nz)).1.mono (by omega) fun _ _=>rfl⟩
end
end Go.Proofs.YtkdjapahgmflbaaGreat
