import Derived.Test.YtkdjapahgmflbaaGreatDW88
import Derived.Test.YtkdjapahgmflbaaGreatDW104
section
set_option linter.unusedSimpArgs false
set_option linter.unusedVariables false
set_option maxHeartbeats 4000000
set_option maxRecDepth 20000
namespace Go.Proofs.YtkdjapahgmflbaaGreat
open Go Go.Ab
attribute[local irreducible] cZ
section
def QZ (x0 x1:AV):Prog:=Lf 29 x0 fun a=>Ix 12 a x1 fun a=>Lg 1 a fun a=>Bn .eql a (.int .i64 0) fun b=>.scope (.ite b (Lf 29 x0 fun a=>Ix 12 a x1 fun a=>.op (.fad 2 a) fun a=>Lg 0 a fun a=>Lf 14 x0 fun b=>Ln 0 b fun b=>Cl d9 [a,b] fun a=>Lf 14 x0 fun b=>Ix 2 b a fun b=>Lg 0 b fun b=>.op (.bin 0 .neq b (.int .i64 (-1))) fun b=>.ite b (.fin [.val (.bool false)]) (Lf 14 x0 fun b=>Ix 2 b a fun a=>Sg 0 a x1 fun _=>Lf 29 x0 fun a=>Ix 12 a x1 fun a=>Sg 1 a (.int .i64 1) fun _=>.leaf 0 [.bool true])) (Bn .eql a (.int .i64 1) fun b=>.scope (.ite b (Cl Ka [x0,x1] fun a=>.leaf 0 [a]) (Bn .eql a (.int .i64 2) fun a=>.scope (.ite a (Cl J9 [x0,x1] fun a=>.leaf 0 [a]) (Cl Kc [x0,x1] fun _=>.leaf 0 [.bool true])) (fun a=>.leaf 0 [g a 0]) fun a b=>aB a 1 (.leaf 1 b) .bad)) (fun a=>.leaf 0 [g a 0]) fun a b=>aB a 1 (.leaf 1 b) .bad)) (fun a=>.scope (.ite (g a 0) (Lf 12 x0 fun a=>Bn .add a (.int .i64 1) fun a=>Sf 12 x0 a fun _=>.leaf 0 []) (.leaf 0 [])) (fun _=>.fin [.val (g a 0)]) fun a b=>aB a 1 (.leaf 1 b) .bad) fun a b=>aB a 1 (.leaf 1 b) .bad
theorem aeZ (x0 x1:AV):CC Tryz.prog J8 [x0,x1] (QZ x0 x1):=cc Tryz.func122 [0,5] (fun r=>if r=5 then[(0,[]),(1,[]),(2,[]),(3,[]),(4,[]),(5,[]),(6,[]),(7,[]),(8,[]),(9,[]),(10,[]),(11,[]),(12,[]),(13,[]),(14,[]),(15,[])] else[])
end
theorem adR {h:AH} {n b k:Nat} {x:Wld} {V:WV} {F:WF} {t:Task} {d:bI} (w:PW n h b x V F) (ht:x.tasks[k]? =some t) (hd:x.aF[t.h.toNat]? =some d) (h0:0≤t.h) (h1:1≤(x.st.length:Int)) (hs:Sz.sz x≤33554432) (hc:x.cache.length≤1048576) (hp:0≤t.pc∧t.pc≤3):bN Tryz.prog J8 [.ptr b 0,.int .i64 (k:Int)] h (Stp n h b F ((iF x k t).map fu)):=by
 obtain⟨v0,v1,v2,v3,v4,v5,v6,v7,v8,v9,v10⟩:=V
 have hk:k < x.tasks.length:=(List.getElem?_eq_some_iff.1 ht).1
 have s:=w.ws
 obtain⟨y,hy⟩:=lu h1 t.s.trace
 have hsb:=iU (t:=t.s.trace) h1
 have hh:iB x t.s.trace=y.held:=Gp hy
 obtain⟨b1,o1,e1⟩:=w.r1.sl hy;have e1:v1= .sl b1 o1 x.st.length:=e1;subst e1;have l1:b1 < _:=dZ w.r1;obtain⟨b9,o9,e9⟩:=w.r9.sl ht;have e9:v9= .sl b9 o9 x.tasks.length:=e9;subst e9;have l9:b9 < _:=dZ w.r9
 have bk:=bkE w
 obtain⟨dI,dJ,dU,j6,kG,ek,j5,j4,kH,iT,kF,kD,kE,jT,jk,gW⟩:=s.dL (bb:=b9) (off:=o9) ht rfl;have ek:EK Task _ _ _ b9 (o9+k * 12) [.int .i64 t.op,.int .i64 t.pc,.int .i64 t.s.trace,.int .i64 t.s.id,.int .i64 t.s.start,.int .i64 t.s.fin,.bool t.s.err,dI,.int .i64 t.trace,.int .i64 t.stamp,dJ,.int .i64 t.h] _ _ _ _:=ek
 have at9:=ek.at_
 refine aeZ _ _ ?_
 unfold QZ
 have hcs:t.pc=0∨t.pc=1∨t.pc=2∨t.pc=3:=by omega
 rcases hcs with hp|hp|hp|hp
 ·have e:iF x k t=if iB x t.s.trace≠-1 then none else some {x with st:=gy x.st t.s.trace k,tasks:=x.tasks.set k {t with pc:=1}}:=by unfold iF;rw[if_pos hp]
  rw[e]
  obtain⟨kW,kT,wR,ey,wH,uE,rH,wQ,wO,wP,rJ,rz,lV⟩:=s.kS (bb:=b1) (off:=o1) hy rfl;have ey:EK aQ _ _ _ b1 (o1+(stripe t.s.trace x.st.length).toNat * 2) [.int .i64 y.held,kW] _ _ _ _:=ey
  have at1:=ey.at_
  by_cases hf:y.held= -1
  ·rw[if_neg (by omega)]
   (repeat' first|((with_reducible refine bW ?_);refine EK.st_ (ey.ext aD) (by rfl) (by rfl) aX ?_;intro h_ ey k_ n_)|refine vsx ?_|refine ao4 ?_|(refine br ?_ ?_<;>first|exact bo|intro _)|((with_reducible refine aA d9 ?_);refine aJ iD ?_)|fail)
   all_goals try(exfalso;omega)
   obtain⟨x1,F1,e1,s1,m1⟩:=lV _ {y with held:=k} rfl ey
   have ht1:x1.tasks[k]? =some t:=by rw[e1];exact ht
   obtain⟨bZ,bY,gF,gD,gU,et,gM,gL,gI,fZ,gT,gP,gQ,gV,fF,dH⟩:=s1.dL (bb:=b9) (off:=o9) ht1 rfl;have et:EK Task _ _ _ b9 (o9+k * 12) [.int .i64 t.op,.int .i64 t.pc,.int .i64 t.s.trace,.int .i64 t.s.id,.int .i64 t.s.start,.int .i64 t.s.fin,.bool t.s.err,bZ,.int .i64 t.trace,.int .i64 t.stamp,bY,.int .i64 t.h] _ _ _ _:=et
   (repeat' first|((with_reducible refine bW ?_);refine EK.st_ (et.ext aD) (by rfl) (by rfl) aX ?_;intro h_ et k_ n_)|refine vsx ?_|(with_reducible refine aW ?_)|refine gS ?_|fail)
   obtain⟨x2,F2,e2,s2,m2⟩:=dH _ {t with pc:=1} rfl rfl et
   have bk2:=bkE s2.w
   have hb2:=bk2.1
   clear bk at9 at1
   (repeat' first|(with_reducible refine eu ?_)|refine vsx ?_|(with_reducible refine aW ?_)|fail)
   refine s2.iR (fu x2) (fun x3 e3 s3=>?_) iq (by rw[e2,e1];rfl)
   (repeat' first|refine vsw ?_|fail)
   have e:x3=fu {x with st:=gy x.st t.s.trace k,tasks:=x.tasks.set k {t with pc:=1}}:=by rw[e3,e2,e1,qC hy]
   rw[e] at s3
   exact⟨rfl,_,rfl,rfl,s3.done⟩
  ·rw[if_pos (by omega)]
   (repeat' first|refine vsw ?_|refine ao4 ?_|(refine br ?_ ?_<;>first|exact bo|intro _)|((with_reducible refine aA d9 ?_);refine aJ iD ?_)|fail)
   all_goals try(exfalso;omega)
   exact⟨rfl,_,rfl,rfl,Kp.iA aD⟩
 ·have e:iF x k t=lookW x k t:=by unfold iF;rw[if_neg (by omega),if_pos hp]
  rw[e]
  (repeat' first|refine vsx ?_|refine ao4 ?_|(refine br ?_ ?_<;>first|exact bo|intro _)|fail)
  all_goals try(exfalso;omega)
  refine aK (adT w ht hd h0 h1 hs) ?_
  intro v2 h2 hst
  cases hL:lookW x k t with
  |none=>
   rw[hL] at hst
   obtain⟨rfl,kk⟩:=hst
   (repeat' first|refine vsw ?_|refine gS ?_|fail)
   exact⟨rfl,_,rfl,rfl,kk⟩
  |some z=>
   rw[hL] at hst
   obtain⟨rfl,W⟩:=hst
   obtain⟨V2,F2,s2,-⟩:=s.call W
   obtain⟨v0,v1,v2,v3,v4,v5,v6,v7,v8,v9,v10⟩:=V2
   have bk2:=bkE s2.w
   have hb2:=bk2.1
   (repeat' first|(with_reducible refine eu ?_)|refine vsx ?_|(with_reducible refine aW ?_)|refine gS ?_|fail)
   refine s2.iR (fu z) (fun x3 e3 s3=>?_)
   (repeat' first|refine vsw ?_|fail)
   subst e3
   exact⟨rfl,_,rfl,rfl,s3.done⟩
 ·have e:iF x k t=qV x k t:=by unfold iF;rw[if_neg (by omega),if_neg (by omega),if_pos hp]
  rw[e]
  (repeat' first|refine vsx ?_|refine ao4 ?_|(refine br ?_ ?_<;>first|exact bo|intro _)|fail)
  all_goals try(exfalso;omega)
  refine aK (adS w ht h1 (by have:=tY hs;omega)) ?_
  intro v2 h2 hst
  cases hL:qV x k t with
  |none=>
   rw[hL] at hst
   obtain⟨rfl,kk⟩:=hst
   (repeat' first|refine vsw ?_|refine gS ?_|fail)
   exact⟨rfl,_,rfl,rfl,kk⟩
  |some z=>
   rw[hL] at hst
   obtain⟨rfl,W⟩:=hst
   obtain⟨V2,F2,s2,-⟩:=s.call W
   obtain⟨v0,v1,v2,v3,v4,v5,v6,v7,v8,v9,v10⟩:=V2
   have bk2:=bkE s2.w
   have hb2:=bk2.1
   (repeat' first|(with_reducible refine eu ?_)|refine vsx ?_|(with_reducible refine aW ?_)|refine gS ?_|fail)
   refine s2.iR (fu z) (fun x3 e3 s3=>?_)
   (repeat' first|refine vsw ?_|fail)
   subst e3
   exact⟨rfl,_,rfl,rfl,s3.done⟩
 ·have e:iF x k t=some (ng x k t):=by unfold iF;rw[if_neg (by omega),if_neg (by omega),if_neg (by omega)]
  rw[e]
  (repeat' first|refine vsx ?_|refine ao4 ?_|(refine br ?_ ?_<;>first|exact bo|intro _)|fail)
  all_goals try(exfalso;omega)
  refine aK (adU w ht h1 hs hc) ?_
  rintro _ h2 ⟨rfl,W⟩
  obtain⟨V2,F2,s2,-⟩:=s.call W
  obtain⟨z,hz,s2⟩:=s2.gen
  obtain⟨v0,v1,v2,v3,v4,v5,v6,v7,v8,v9,v10⟩:=V2
  have bk2:=bkE s2.w
  have hb2:=bk2.1
  (repeat' first|(with_reducible refine eu ?_)|refine vsx ?_|(with_reducible refine aW ?_)|refine gS ?_|fail)
  refine s2.iR (fu z) (fun x3 e3 s3=>?_)
  (repeat' first|refine vsw ?_|fail)
  subst e3
  subst hz
  exact⟨rfl,_,rfl,rfl,s3.done⟩
end Go.Proofs.YtkdjapahgmflbaaGreat
end
section
set_option linter.unusedSimpArgs false
set_option linter.unusedVariables false
set_option maxHeartbeats 2000000
namespace Go.Proofs.YtkdjapahgmflbaaGreat
open Go Go.Ab
attribute[local irreducible] cZ
section
variable{n b:Nat} {h h':AH} {L:List (List Nat)}
theorem amv (s:iy n h b L) {i j:Nat} (hij:i≠j) {F G f g:List Nat} (hF:L[i]? =some F) (hG:L[j]? =some G) (k:Kp h h' (b::(F++G))) (o:bO n h' f) (o':bO n h' g) (hb:b ∉ f) (hb':b ∉ g) (d:∀ c∈f,c ∉ g) (fr:∀ c∈f,c∈F∨c∈G∨c ∉ L.flatten) (fr':∀ c∈g,c∈F∨c∈G∨c ∉ L.flatten):iy n h' b ((L.set i f).set j g):=by
 have dj:∀ (e:List Nat),(∀ c∈e,c∈F∨c∈G∨c ∉ L.flatten)→∀ (l:Nat) (H:List Nat),l≠i→l≠j→L[l]? =some H→∀ c∈e,c ∉ H:=fun e fr l H hi hj hH c hc hc'=>by
  rcases fr c hc with q|q|q
  ·exact s.dis i l F H (fun e=>hi e.symm) hF hH c q hc'
  ·exact s.dis j l G H (fun e=>hj e.symm) hG hH c q hc'
  ·exact q (fE.2 ⟨l,H,hH,hc'⟩)
 have N8:∀ {l:Nat} {H:List Nat},((L.set i f).set j g)[l]? =some H→(l=j∧H=g)∨(l=i∧H=f)∨(l≠i∧l≠j∧L[l]? =some H):=fun{l H} hH=>by
  rcases jV hH with q|⟨q,hH⟩
  ·exact .inl q
  ·rcases jV hH with r|⟨r,hH⟩
   ·exact .inr (.inl r)
   ·exact .inr (.inr ⟨r,q,hH⟩)
 refine⟨fun l H hH=>?_,fun l m H K hlm hH hK=>?_⟩
 ·rcases N8 hH with⟨_,rfl⟩|⟨_,rfl⟩|⟨hi,hj,hH⟩
  ·exact⟨o',hb'⟩
  ·exact⟨o,hb⟩
  ·have:=s.own l H hH
   refine⟨dD k this.1 fun c hc hX=>?_,this.2⟩
   rcases List.mem_cons.1 hX with e|e
   ·subst e;exact this.2 hc
   rcases List.mem_append.1 e with e|e
   ·exact s.dis l i H F hi hH hF c hc e
   ·exact s.dis l j H G hj hH hG c hc e
 ·rcases N8 hH with⟨a1,a2⟩|⟨a1,a2⟩|⟨ai,aj,hH⟩<;>rcases N8 hK with⟨b1,b2⟩|⟨b1,b2⟩|⟨bi,bj,hK⟩
  ·exact absurd (a1.trans b1.symm) hlm
  ·rw[a2,b2];exact fun c hc hc'=>d c hc' hc
  ·rw[a2];exact dj g fr' m K bi bj hK
  ·rw[a2,b2];exact d
  ·exact absurd (a1.trans b1.symm) hlm
  ·rw[a2];exact dj f fr m K bi bj hK
  ·rw[b2];exact fun c hc hc'=>dj g fr' l H ai aj hH c hc' hc
  ·rw[b2];exact fun c hc hc'=>dj f fr l H ai aj hH c hc' hc
  ·exact s.dis l m H K hlm hH hK
end
section
variable{n m b:Nat} {h0 h h':AH} {x x':Wld} {V:WV} {F0 F:WF} {v7 v9:AV} {f7 f9:List Nat}
theorem amB (w:PW n h b x V F) (bk:Bk h' b (x'.cv {V with v7:=v7,v9:=v9}) 0) (k:Kp h h' (b::(F.f7++F.f9))) (r7:au h' v7 x'.queue f7) (r9:au h' v9 x'.tasks f9) (o7:Own n h' f7) (o9:Own n h' f9) (hb7:b ∉ f7) (hb9:b ∉ f9) (d:∀ c∈f7,c ∉ f9) (fr7:∀ c∈f7,c∈F.f7∨c∈F.f9∨c ∉ F.a) (fr9:∀ c∈f9,c∈F.f7∨c∈F.f9∨c ∉ F.a) (e0:x'.c.rule.l=x.c.rule.l:=by rfl) (e1:x'.st=x.st:=by rfl) (e2:x'.cache=x.cache:=by rfl) (e3:x'.w.near=x.w.near:=by rfl) (e4:x'.w.far=x.w.far:=by rfl) (e5:x'.w.rest=x.w.rest:=by rfl) (e6:x'.due=x.due:=by rfl) (e8:x'.out=x.out:=by rfl) (e10:x'.aF=x.aF:=by rfl):PW n h' b x' {V with v7:=v7,v9:=v9} {F with f7:=f7,f9:=f9}:=by
 have dj:∀ (j:Nat) (G:List Nat),j≠7→j≠9→F.l[j]? =some G→∀ c∈G,c ∉ b::(F.f7++F.f9):=fun j G hj hj' hG c hc hX=>by
  rcases List.mem_cons.1 hX with e|e
  ·subst e;exact(w.sep.own j G hG).2 hc
  rcases List.mem_append.1 e with e|e
  ·exact w.sep.dis j 7 G _ hj hG rfl c hc e
  ·exact w.sep.dis j 9 G _ hj' hG rfl c hc e
 exact⟨bk,w.nb,amv (i:=7) (j:=9) w.sep (by decide) rfl rfl k ⟨o7,r7.lt⟩ ⟨o9,r9.lt⟩ hb7 hb9 d fr7 fr9,by rw[e0];exact aL k w.r0 (dj 0 _ (by decide) (by decide) rfl),by rw[e1];exact aL k w.r1 (dj 1 _ (by decide) (by decide) rfl),by rw[e2];exact aL k w.r2 (dj 2 _ (by decide) (by decide) rfl),by rw[e3];exact aL k w.r3 (dj 3 _ (by decide) (by decide) rfl),by rw[e4];exact aL k w.r4 (dj 4 _ (by decide) (by decide) rfl),by rw[e5];exact aL k w.r5 (dj 5 _ (by decide) (by decide) rfl),by rw[e6];exact aL k w.r6 (dj 6 _ (by decide) (by decide) rfl),r7,by rw[e8];exact aL k w.r8 (dj 8 _ (by decide) (by decide) rfl),r9,by rw[e10];exact aL k w.r10 (dj 10 _ (by decide) (by decide) rfl)⟩
theorem akD {c:Nat} (hc:c∈({F with f7:=f7,f9:=f9}:WF).a):c∈f7∨c∈f9∨c∈F.a:=by
 obtain⟨j,G,hG,hm⟩:=fE.1 hc
 have e:({F with f7:=f7,f9:=f9}:WF).l=(F.l.set 7 f7).set 9 f9:=rfl
 rw[e] at hG
 rcases jV hG with⟨_,rfl⟩|⟨_,hG⟩
 ·exact .inr (.inl hm)
 rcases jV hG with⟨_,rfl⟩|⟨_,hG⟩
 ·exact .inl hm
 ·exact .inr (.inr (fE.2 ⟨j,G,hG,hm⟩))
end
theorem Vv {h:AH} {n:Nat} {v:AV} {y:Itm} {ys:List Itm} {G:List Nat} (r:au h v (y::ys) G) (o:Own n h G):∃ bh oh cs Gy Gs,v= .sl bh oh (ys.length+1)∧G=bh::(Gy++Gs)∧At h bh oh cs∧Cel.rep h y cs Gy∧au h (.sl bh (oh+7) ys.length) ys (bh::Gs)∧(h.get bh).es=7∧(h.get bh).st=0∧oh+(ys.length+1) * 7≤(h.get bh).cells.length:=by
 rcases r with⟨_,e,_⟩|⟨bh,oh,F',c0,rfl,rfl,hb,hl,hes,hlen,hsm,hcs,R⟩
 ·simp at e
 obtain⟨c1,c2,F1,F2,ec,rfl,r1,r2⟩:=R
 have w7:Cel.w Itm=7:=rfl
 have l1:=Cel.len r1
 rw[w7] at l1 hes hlen hcs
 simp only[List.length_cons] at hlen hcs hsm
 have e0:((h.get bh).cells.drop oh).take ((ys.length+1) * 7)=c1++c2:=by rw[←ec];exact hcs.symm
 refine⟨bh,oh,c1,F1,F2,rfl,rfl,⟨hb,hl,?_⟩,r1,.inr ⟨bh,oh+7,F2,c2,rfl,rfl,hb,hl,hes,by rw[w7];omega,by omega,?_,r2⟩,hes,(o.2 bh (by simp)).2,hlen⟩
 ·have e1:=congrArg (List.take 7) e0
  rw[List.take_take,show min 7 ((ys.length+1) * 7)=7 by omega,List.take_left' l1] at e1
  rw[l1];exact e1
 ·have e1:=congrArg (List.drop 7) e0
  rw[List.drop_take,List.drop_drop,List.drop_left' l1] at e1
  rw[w7,←e1]
  congr 1<;>omega
end Go.Proofs.YtkdjapahgmflbaaGreat
end
