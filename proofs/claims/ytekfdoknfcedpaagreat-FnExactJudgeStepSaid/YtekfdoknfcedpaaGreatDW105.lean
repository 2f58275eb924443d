import Derived.Test.YtekfdoknfcedpaaGreatDW104
import Derived.Test.YtekfdoknfcedpaaGreatDW87
import Derived.Test.YtekfdoknfcedpaaGreatDAb56
set_option linter.unusedSimpArgs false
set_option linter.unusedVariables false
set_option maxHeartbeats 2000000
namespace Go.Proofs.YtekfdoknfcedpaaGreat
open Go Go.Ab
attribute[local irreducible] dK
section
variable{n b:Nat} {h h':AH} {L:List (List Nat)}
theorem amm (s:iO n h b L) {i j:Nat} (hij:i≠j) {F G f g:List Nat} (hF:L[i]? =some F) (hG:L[j]? =some G) (k:Kp h h' (b::(F++G))) (o:cO n h' f) (o':cO n h' g) (hb:b ∉ f) (hb':b ∉ g) (d:∀ c∈f,c ∉ g) (fr:∀ c∈f,c∈F∨c∈G∨c ∉ L.flatten) (fr':∀ c∈g,c∈F∨c∈G∨c ∉ L.flatten):iO n h' b ((L.set i f).set j g):=by
 have dj:∀ (e:List Nat),(∀ c∈e,c∈F∨c∈G∨c ∉ L.flatten)→∀ (l:Nat) (H:List Nat),l≠i→l≠j→L[l]? =some H→∀ c∈e,c ∉ H:=fun e fr l H hi hj hH c hc hc'=>by
  rcases fr c hc with q|q|q
  ·exact s.dis i l F H (fun e=>hi e.symm) hF hH c q hc'
  ·exact s.dis j l G H (fun e=>hj e.symm) hG hH c q hc'
  ·exact q (fM.2 ⟨l,H,hH,hc'⟩)
 have Lx:∀ {l:Nat} {H:List Nat},((L.set i f).set j g)[l]? =some H→(l=j∧H=g)∨(l=i∧H=f)∨(l≠i∧l≠j∧L[l]? =some H):=fun{l H} hH=>by
  rcases kM hH with q|⟨q,hH⟩
  ·exact .inl q
  ·rcases kM hH with r|⟨r,hH⟩
   ·exact .inr (.inl r)
   ·exact .inr (.inr ⟨r,q,hH⟩)
 refine⟨fun l H hH=>?_,fun l m H K hlm hH hK=>?_⟩
 ·rcases Lx hH with⟨_,rfl⟩|⟨_,rfl⟩|⟨hi,hj,hH⟩
  ·exact⟨o',hb'⟩
  ·exact⟨o,hb⟩
  ·have:=s.own l H hH
   refine⟨bC k this.1 fun c hc hX=>?_,this.2⟩
   rcases List.mem_cons.1 hX with e|e
   ·subst e;exact this.2 hc
   rcases List.mem_append.1 e with e|e
   ·exact s.dis l i H F hi hH hF c hc e
   ·exact s.dis l j H G hj hH hG c hc e
 ·rcases Lx hH with⟨a1,a2⟩|⟨a1,a2⟩|⟨ai,aj,hH⟩<;>rcases Lx hK with⟨b1,b2⟩|⟨b1,b2⟩|⟨bi,bj,hK⟩
  ·exact absurd (a1.trans b1.symm) hlm
  ·rw[a2,b2];exact fun c hc hc'=>d c hc' hc
  ·rw[a2];exact dj g fr' m K bi bj hK
  ·rw[a2,b2];exact d
  ·exact absurd (a1.trans b1.symm) hlm
  ·rw[a2];exact dj f fr m K bi bj hK
  ·rw[b2];exact fun c hc hc'=>dj g fr' l H ai aj hH c hc' hc
  ·rw[b2];exact fun c hc hc'=>dj f fr l H ai aj hH c hc' hc
  ·exact s.dis l m H K hlm hH hK
end
section
variable{n m b:Nat} {h0 h h':AH} {x x':Wld} {V:WV} {F0 F:WF} {v7 v9:AV} {f7 f9:List Nat}
theorem amt (w:PW n h b x V F) (bk:Bk h' b (x'.cv {V with v7:=v7,v9:=v9}) 0) (k:Kp h h' (b::(F.f7++F.f9))) (r7:au h' v7 x'.queue f7) (r9:au h' v9 x'.tasks f9) (o7:Own n h' f7) (o9:Own n h' f9) (hb7:b ∉ f7) (hb9:b ∉ f9) (d:∀ c∈f7,c ∉ f9) (fr7:∀ c∈f7,c∈F.f7∨c∈F.f9∨c ∉ F.a) (fr9:∀ c∈f9,c∈F.f7∨c∈F.f9∨c ∉ F.a) (e0:x'.c.rule.l=x.c.rule.l:=by rfl) (e1:x'.st=x.st:=by rfl) (e2:x'.cache=x.cache:=by rfl) (e3:x'.w.near=x.w.near:=by rfl) (e4:x'.w.far=x.w.far:=by rfl) (e5:x'.w.rest=x.w.rest:=by rfl) (e6:x'.due=x.due:=by rfl) (e8:x'.out=x.out:=by rfl) (e10:x'.aH=x.aH:=by rfl):PW n h' b x' {V with v7:=v7,v9:=v9} {F with f7:=f7,f9:=f9}:=by
 have dj:∀ (j:Nat) (G:List Nat),j≠7→j≠9→F.l[j]? =some G→∀ c∈G,c ∉ b::(F.f7++F.f9):=fun j G hj hj' hG c hc hX=>by
  rcases List.mem_cons.1 hX with e|e
  ·subst e;exact(w.sep.own j G hG).2 hc
  rcases List.mem_append.1 e with e|e
  ·exact w.sep.dis j 7 G _ hj hG rfl c hc e
  ·exact w.sep.dis j 9 G _ hj' hG rfl c hc e
 exact⟨bk,w.nb,amm (i:=7) (j:=9) w.sep (by decide) rfl rfl k ⟨o7,r7.lt⟩ ⟨o9,r9.lt⟩ hb7 hb9 d fr7 fr9,by rw[e0];exact aI k w.r0 (dj 0 _ (by decide) (by decide) rfl),by rw[e1];exact aI k w.r1 (dj 1 _ (by decide) (by decide) rfl),by rw[e2];exact aI k w.r2 (dj 2 _ (by decide) (by decide) rfl),by rw[e3];exact aI k w.r3 (dj 3 _ (by decide) (by decide) rfl),by rw[e4];exact aI k w.r4 (dj 4 _ (by decide) (by decide) rfl),by rw[e5];exact aI k w.r5 (dj 5 _ (by decide) (by decide) rfl),by rw[e6];exact aI k w.r6 (dj 6 _ (by decide) (by decide) rfl),r7,by rw[e8];exact aI k w.r8 (dj 8 _ (by decide) (by decide) rfl),r9,by rw[e10];exact aI k w.r10 (dj 10 _ (by decide) (by decide) rfl)⟩
theorem akA {c:Nat} (hc:c∈({F with f7:=f7,f9:=f9}:WF).a):c∈f7∨c∈f9∨c∈F.a:=by
 obtain⟨j,G,hG,hm⟩:=fM.1 hc
 have e:({F with f7:=f7,f9:=f9}:WF).l=(F.l.set 7 f7).set 9 f9:=rfl
 rw[e] at hG
 rcases kM hG with⟨_,rfl⟩|⟨_,hG⟩
 ·exact .inr (.inl hm)
 rcases kM hG with⟨_,rfl⟩|⟨_,hG⟩
 ·exact .inl hm
 ·exact .inr (.inr (fM.2 ⟨j,G,hG,hm⟩))
end
theorem SB {h:AH} {n:Nat} {v:AV} {y:Itm} {ys:List Itm} {G:List Nat} (r:au h v (y::ys) G) (o:Own n h G):∃ bh oh cs Gy Gs,v= .sl bh oh (ys.length+1)∧G=bh::(Gy++Gs)∧At h bh oh cs∧Cel.rep h y cs Gy∧au h (.sl bh (oh+7) ys.length) ys (bh::Gs)∧(h.get bh).es=7∧(h.get bh).st=0∧oh+(ys.length+1) * 7≤(h.get bh).cells.length:=by
 rcases r with⟨_,e,_⟩|⟨bh,oh,F',c0,rfl,rfl,hb,hl,hes,hlen,hsm,hcs,R⟩
 ·simp at e
 obtain⟨c1,c2,F1,F2,ec,rfl,r1,r2⟩:=R
 have w7:Cel.w Itm=7:=rfl
 have l1:=Cel.len r1
 rw[w7] at l1 hes hlen hcs
 simp only[List.length_cons] at hlen hcs hsm
 have e0:((h.get bh).cells.drop oh).take ((ys.length+1) * 7)=c1++c2:=by rw[←ec];exact hcs.symm
 refine⟨bh,oh,c1,F1,F2,rfl,rfl,⟨hb,hl,?_⟩,r1,.inr ⟨bh,oh+7,F2,c2,rfl,rfl,hb,hl,hes,by rw[w7];omega,by omega,?_,r2⟩,hes,(o.2 bh (by simp)).2,hlen⟩
 ·have e1:=congrArg (List.take 7) e0
  rw[List.take_take,show min 7 ((ys.length+1) * 7)=7 by omega,List.take_left' l1] at e1
  rw[l1];exact e1
 ·have e1:=congrArg (List.drop 7) e0
  rw[List.drop_take,List.drop_drop,List.drop_left' l1] at e1
  rw[w7,←e1]
  congr 1<;>omega
end Go.Proofs.YtekfdoknfcedpaaGreat
