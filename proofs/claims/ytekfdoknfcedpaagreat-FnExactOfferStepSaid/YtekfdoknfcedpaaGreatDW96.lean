import Derived.Test.YtekfdoknfcedpaaGreatDW88
set_option linter.unusedSimpArgs false
set_option linter.unusedVariables false
set_option maxHeartbeats 4000000
set_option maxRecDepth 20000
namespace Go.Proofs.YtekfdoknfcedpaaGreat
open Go Go.Ab
attribute[local irreducible] dI
section
def Pw (x0 x1:AV):Prog:=Lf 29 x0 fun a=>Ix 12 a x1 fun a=>Lg 1 a fun a=>Bn .eql a (.int .i64 0) fun b=>.scope (.ite b (Lf 29 x0 fun a=>Ix 12 a x1 fun a=>.op (.fad 2 a) fun a=>Lg 0 a fun a=>Lf 14 x0 fun b=>Ln 0 b fun b=>Cl eU [a,b] fun a=>Lf 14 x0 fun b=>Ix 2 b a fun b=>Lg 0 b fun b=>.op (.bin 0 .neq b (.int .i64 (-1))) fun b=>.ite b (.fin [.val (.bool false)]) (Lf 14 x0 fun b=>Ix 2 b a fun a=>Sg 0 a x1 fun _=>Lf 29 x0 fun a=>Ix 12 a x1 fun a=>Sg 1 a (.int .i64 1) fun _=>.leaf 0 [.bool true])) (Bn .eql a (.int .i64 1) fun b=>.scope (.ite b (Cl Jf [x0,x1] fun a=>.leaf 0 [a]) (Bn .eql a (.int .i64 2) fun a=>.scope (.ite a (Cl Je [x0,x1] fun a=>.leaf 0 [a]) (Cl Jg [x0,x1] fun _=>.leaf 0 [.bool true])) (fun a=>.leaf 0 [g a 0]) fun a b=>ak a 1 (.leaf 1 b) .bad)) (fun a=>.leaf 0 [g a 0]) fun a b=>ak a 1 (.leaf 1 b) .bad)) (fun a=>.scope (.ite (g a 0) (Lf 12 x0 fun a=>Bn .add a (.int .i64 1) fun a=>Sf 12 x0 a fun _=>.leaf 0 []) (.leaf 0 [])) (fun _=>.fin [.val (g a 0)]) fun a b=>ak a 1 (.leaf 1 b) .bad) fun a b=>ak a 1 (.leaf 1 b) .bad
theorem afv (x0 x1:AV):CC Tryz.prog Jd [x0,x1] (Pw x0 x1):=cc Tryz.func73 [0,5] (fun r=>if r=5 then[(0,[]),(1,[]),(2,[]),(3,[]),(4,[]),(5,[]),(6,[]),(7,[]),(8,[]),(9,[]),(10,[]),(11,[]),(12,[]),(13,[]),(14,[]),(15,[])] else[])
end
theorem aey {h:AH} {n b k:Nat} {x:Wld} {V:WV} {F:WF} {t:Task} {d:bV} (w:PW n h b x V F) (ht:x.tasks[k]? =some t) (hd:x.aI[t.h.toNat]? =some d) (h0:0≤t.h) (h1:1≤(x.st.length:Int)) (hs:Sz.sz x≤33554432) (hc:x.cache.length≤1048576) (hp:0≤t.pc∧t.pc≤3):bE Tryz.prog Jd [.ptr b 0,.int .i64 (k:Int)] h (Stp n h b F ((gJ x k t).map kE)):=by
 obtain⟨v0,v1,v2,v3,v4,v5,v6,v7,v8,v9,v10⟩:=V
 have hk:k < x.tasks.length:=(List.getElem?_eq_some_iff.1 ht).1
 have s:=w.ws
 obtain⟨y,hy⟩:=lD h1 t.s.trace
 have hsb:=iG (t:=t.s.trace) h1
 have hh:iK x t.s.trace=y.held:=KH hy
 obtain⟨b1,o1,e1⟩:=w.r1.sl hy;have e1:v1= .sl b1 o1 x.st.length:=e1;subst e1;have l1:b1 < _:=fO w.r1;obtain⟨b9,o9,e9⟩:=w.r9.sl ht;have e9:v9= .sl b9 o9 x.tasks.length:=e9;subst e9;have l9:b9 < _:=fO w.r9
 have bk:Bk h b [AV.int .i64 x.c.cB,AV.int .i64 x.c.wait,AV.int .i64 x.c.budget,AV.int .i64 x.c.cache,AV.int .i64 x.c.queue,AV.int .i64 x.c.rate,AV.int .i64 x.c.aV,AV.int .i64 x.c.rule.kind,AV.int .i64 x.c.rule.n,AV.str x.c.rule.key,AV.str x.c.rule.text,v0,AV.int .i64 x.time,AV.bool x.shut,(AV.sl b1 o1 x.st.length),AV.int .i64 x.bQ,AV.int .i64 x.b.rate,AV.int .i64 x.b.aV,AV.int .i64 x.b.tokens,AV.int .i64 x.b.at_,v2,AV.int .i64 x.used,AV.int .i64 x.w.now,v3,v4,v5,v6,v7,v8,(AV.sl b9 o9 x.tasks.length),v10,AV.int .i64 x.next] 0:=w.bk
 obtain⟨fJ,fP,dW,nV,oz,ek,nU,nT,oC,jV,oq,oh,om,mY,mM,jq⟩:=s.fH (bb:=b9) (off:=o9) ht rfl;have ek:EK Task _ _ _ b9 (o9+k * 12) [.int .i64 t.op,.int .i64 t.pc,.int .i64 t.s.trace,.int .i64 t.s.id,.int .i64 t.s.start,.int .i64 t.s.fin,.bool t.s.err,fJ,.int .i64 t.trace,.int .i64 t.stamp,fP,.int .i64 t.h] _ _ _ _:=ek
 have at9:=ek.at_
 refine afv _ _ ?_
 unfold Pw
 have hcs:t.pc=0∨t.pc=1∨t.pc=2∨t.pc=3:=by omega
 rcases hcs with hp|hp|hp|hp
 ·have e:gJ x k t=if iK x t.s.trace≠-1 then none else some {x with st:=gU x.st t.s.trace k,tasks:=x.tasks.set k {t with pc:=1}}:=by unfold gJ;rw[if_pos hp]
  rw[e]
  obtain⟨lg,kF,yu,ey,xQ,uT,rW,yj,yg,yh,rX,rO,lZ⟩:=s.kT (bb:=b1) (off:=o1) hy rfl;have ey:EK aM _ _ _ b1 (o1+(stripe t.s.trace x.st.length).toNat * 2) [.int .i64 y.held,lg] _ _ _ _:=ey
  have at1:=ey.at_
  by_cases hf:y.held= -1
  ·rw[if_neg (by omega)]
   (repeat' first|((with_reducible refine dQ ?_);refine EK.st_ (ey.ext aA) (by rfl) (by rfl) bP ?_;intro h_ ey k_ n_)|refine vsx ?_|(with_reducible refine aS ?_)|(with_reducible refine pG ?_)|((with_reducible refine aP ?_);first|refine bN (by omega) ?_|refine dY (by omega) (by omega) ?_)|(refine br ?_ ?_<;>first|exact bo|intro _)|((with_reducible refine ay eU ?_);refine aK iq ?_)|fail)
   all_goals try(exfalso;omega)
   obtain⟨x1,F1,e1,s1,m1⟩:=lZ _ {y with held:=k} rfl ey
   have ht1:x1.tasks[k]? =some t:=by rw[e1];exact ht
   obtain⟨eO,eG,jL,jK,jS,et,jJ,jI,jT,jP,jR,jO,jQ,jU,iU,fB⟩:=s1.fH (bb:=b9) (off:=o9) ht1 rfl;have et:EK Task _ _ _ b9 (o9+k * 12) [.int .i64 t.op,.int .i64 t.pc,.int .i64 t.s.trace,.int .i64 t.s.id,.int .i64 t.s.start,.int .i64 t.s.fin,.bool t.s.err,eO,.int .i64 t.trace,.int .i64 t.stamp,eG,.int .i64 t.h] _ _ _ _:=et
   (repeat' first|((with_reducible refine dQ ?_);refine EK.st_ (et.ext aA) (by rfl) (by rfl) bP ?_;intro h_ et k_ n_)|refine vsx ?_|(with_reducible refine aS ?_)|((with_reducible refine bF ?_);simp only[g0,g1,g2]))
   obtain⟨x2,F2,e2,s2,m2⟩:=fB _ {t with pc:=1} rfl rfl et
   have bk2:Bk h_ b [AV.int .i64 x2.c.cB,AV.int .i64 x2.c.wait,AV.int .i64 x2.c.budget,AV.int .i64 x2.c.cache,AV.int .i64 x2.c.queue,AV.int .i64 x2.c.rate,AV.int .i64 x2.c.aV,AV.int .i64 x2.c.rule.kind,AV.int .i64 x2.c.rule.n,AV.str x2.c.rule.key,AV.str x2.c.rule.text,v0,AV.int .i64 x2.time,AV.bool x2.shut,(AV.sl b1 o1 x.st.length),AV.int .i64 x2.bQ,AV.int .i64 x2.b.rate,AV.int .i64 x2.b.aV,AV.int .i64 x2.b.tokens,AV.int .i64 x2.b.at_,v2,AV.int .i64 x2.used,AV.int .i64 x2.w.now,v3,v4,v5,v6,v7,v8,(AV.sl b9 o9 x.tasks.length),v10,AV.int .i64 x2.next] 0:=s2.w.bk
   have hb2:=bk2.1
   clear bk at9 at1
   (repeat' first|(with_reducible refine fK ?_)|refine vsx ?_|(with_reducible refine aS ?_)|fail)
   refine s2.rV (kE x2) (fun x3 e3 s3=>?_) lW (by rw[e2,e1];rfl)
   (repeat' first|refine vsw ?_|fail)
   have e:x3=kE {x with st:=gU x.st t.s.trace k,tasks:=x.tasks.set k {t with pc:=1}}:=by rw[e3,e2,e1,wS hy]
   rw[e] at s3
   exact⟨rfl,_,rfl,rfl,s3.done⟩
  ·rw[if_pos (by omega)]
   (repeat' first|refine vsw ?_|(with_reducible refine aS ?_)|(with_reducible refine pG ?_)|((with_reducible refine aP ?_);first|refine bN (by omega) ?_|refine dY (by omega) (by omega) ?_)|(refine br ?_ ?_<;>first|exact bo|intro _)|((with_reducible refine ay eU ?_);refine aK iq ?_)|fail)
   all_goals try(exfalso;omega)
   exact⟨rfl,_,rfl,rfl,Kp.gY aA⟩
 ·have e:gJ x k t=lookW x k t:=by unfold gJ;rw[if_neg (by omega),if_pos hp]
  rw[e]
  (repeat' first|refine vsx ?_|(with_reducible refine aS ?_)|((with_reducible refine aP ?_);refine bN (by omega) ?_)|(refine br ?_ ?_<;>first|exact bo|intro _)|fail)
  all_goals try(exfalso;omega)
  refine aG (aeA w ht hd h0 h1 hs) ?_
  intro v2 h2 hst
  cases hL:lookW x k t with
  |none=>
   rw[hL] at hst
   obtain⟨rfl,kk⟩:=hst
   (repeat' first|refine vsw ?_|((with_reducible refine bF ?_);simp only[g0,g1,g2]))
   exact⟨rfl,_,rfl,rfl,kk⟩
  |some z=>
   rw[hL] at hst
   obtain⟨rfl,W⟩:=hst
   obtain⟨V2,F2,s2,-⟩:=s.call W
   obtain⟨v0,v1,v2,v3,v4,v5,v6,v7,v8,v9,v10⟩:=V2
   have bk2:Bk h2 b [AV.int .i64 z.c.cB,AV.int .i64 z.c.wait,AV.int .i64 z.c.budget,AV.int .i64 z.c.cache,AV.int .i64 z.c.queue,AV.int .i64 z.c.rate,AV.int .i64 z.c.aV,AV.int .i64 z.c.rule.kind,AV.int .i64 z.c.rule.n,AV.str z.c.rule.key,AV.str z.c.rule.text,v0,AV.int .i64 z.time,AV.bool z.shut,v1,AV.int .i64 z.bQ,AV.int .i64 z.b.rate,AV.int .i64 z.b.aV,AV.int .i64 z.b.tokens,AV.int .i64 z.b.at_,v2,AV.int .i64 z.used,AV.int .i64 z.w.now,v3,v4,v5,v6,v7,v8,v9,v10,AV.int .i64 z.next] 0:=s2.w.bk
   have hb2:=bk2.1
   (repeat' first|(with_reducible refine fK ?_)|refine vsx ?_|(with_reducible refine aS ?_)|((with_reducible refine bF ?_);simp only[g0,g1,g2]))
   refine s2.rV (kE z) (fun x3 e3 s3=>?_)
   (repeat' first|refine vsw ?_|fail)
   subst e3
   exact⟨rfl,_,rfl,rfl,s3.done⟩
 ·have e:gJ x k t=nQ x k t:=by unfold gJ;rw[if_neg (by omega),if_neg (by omega),if_pos hp]
  rw[e]
  (repeat' first|refine vsx ?_|(with_reducible refine aS ?_)|((with_reducible refine aP ?_);refine bN (by omega) ?_)|(refine br ?_ ?_<;>first|exact bo|intro _)|fail)
  all_goals try(exfalso;omega)
  refine aG (aez w ht h1 (by have:=xI hs;omega)) ?_
  intro v2 h2 hst
  cases hL:nQ x k t with
  |none=>
   rw[hL] at hst
   obtain⟨rfl,kk⟩:=hst
   (repeat' first|refine vsw ?_|((with_reducible refine bF ?_);simp only[g0,g1,g2]))
   exact⟨rfl,_,rfl,rfl,kk⟩
  |some z=>
   rw[hL] at hst
   obtain⟨rfl,W⟩:=hst
   obtain⟨V2,F2,s2,-⟩:=s.call W
   obtain⟨v0,v1,v2,v3,v4,v5,v6,v7,v8,v9,v10⟩:=V2
   have bk2:Bk h2 b [AV.int .i64 z.c.cB,AV.int .i64 z.c.wait,AV.int .i64 z.c.budget,AV.int .i64 z.c.cache,AV.int .i64 z.c.queue,AV.int .i64 z.c.rate,AV.int .i64 z.c.aV,AV.int .i64 z.c.rule.kind,AV.int .i64 z.c.rule.n,AV.str z.c.rule.key,AV.str z.c.rule.text,v0,AV.int .i64 z.time,AV.bool z.shut,v1,AV.int .i64 z.bQ,AV.int .i64 z.b.rate,AV.int .i64 z.b.aV,AV.int .i64 z.b.tokens,AV.int .i64 z.b.at_,v2,AV.int .i64 z.used,AV.int .i64 z.w.now,v3,v4,v5,v6,v7,v8,v9,v10,AV.int .i64 z.next] 0:=s2.w.bk
   have hb2:=bk2.1
   (repeat' first|(with_reducible refine fK ?_)|refine vsx ?_|(with_reducible refine aS ?_)|((with_reducible refine bF ?_);simp only[g0,g1,g2]))
   refine s2.rV (kE z) (fun x3 e3 s3=>?_)
   (repeat' first|refine vsw ?_|fail)
   subst e3
   exact⟨rfl,_,rfl,rfl,s3.done⟩
 ·have e:gJ x k t=some (lV x k t):=by unfold gJ;rw[if_neg (by omega),if_neg (by omega),if_neg (by omega)]
  rw[e]
  (repeat' first|refine vsx ?_|(with_reducible refine aS ?_)|((with_reducible refine aP ?_);refine bN (by omega) ?_)|(refine br ?_ ?_<;>first|exact bo|intro _)|fail)
  all_goals try(exfalso;omega)
  refine aG (aeB w ht h1 hs hc) ?_
  rintro _ h2 ⟨rfl,W⟩
  obtain⟨V2,F2,s2,-⟩:=s.call W
  obtain⟨z,hz,s2⟩:=s2.gen
  obtain⟨v0,v1,v2,v3,v4,v5,v6,v7,v8,v9,v10⟩:=V2
  have bk2:Bk h2 b [AV.int .i64 z.c.cB,AV.int .i64 z.c.wait,AV.int .i64 z.c.budget,AV.int .i64 z.c.cache,AV.int .i64 z.c.queue,AV.int .i64 z.c.rate,AV.int .i64 z.c.aV,AV.int .i64 z.c.rule.kind,AV.int .i64 z.c.rule.n,AV.str z.c.rule.key,AV.str z.c.rule.text,v0,AV.int .i64 z.time,AV.bool z.shut,v1,AV.int .i64 z.bQ,AV.int .i64 z.b.rate,AV.int .i64 z.b.aV,AV.int .i64 z.b.tokens,AV.int .i64 z.b.at_,v2,AV.int .i64 z.used,AV.int .i64 z.w.now,v3,v4,v5,v6,v7,v8,v9,v10,AV.int .i64 z.next] 0:=s2.w.bk
  have hb2:=bk2.1
  (repeat' first|(with_reducible refine fK ?_)|refine vsx ?_|(with_reducible refine aS ?_)|((with_reducible refine bF ?_);simp only[g0,g1,g2]))
  refine s2.rV (kE z) (fun x3 e3 s3=>?_)
  (repeat' first|refine vsw ?_|fail)
  subst e3
  subst hz
  exact⟨rfl,_,rfl,rfl,s3.done⟩
end Go.Proofs.YtekfdoknfcedpaaGreat
