import Derived.Test.YtekfdoknfcedpaaGreatDW60
import Derived.Test.YtekfdoknfcedpaaGreatDK5
import Derived.Test.YtekfdoknfcedpaaGreatDAb56
set_option linter.unusedSimpArgs false
set_option linter.unusedVariables false
set_option maxHeartbeats 2000000
namespace Go.Proofs.YtekfdoknfcedpaaGreat
open Go Go.Ab
attribute[local irreducible] dI
section
def QT (x0 x1 x2 x3:AV):Prog:=Lf 29 x0 fun a=>Ix 12 a x1 fun a=>Ld 12 a fun a=>.op (.alloc gX) fun b=>.op (.st 12 b a) fun _=>Lf 30 x0 fun a=>Lg 11 b fun c=>Ix 20 a c fun a=>Sf 10 a x2 fun _=>Sf 9 a x3 fun _=>Lf 12 x0 fun c=>Sf 18 a c fun _=>Lf 12 x0 fun c=>Sf 19 a c fun _=>.op (.bO x0) fun c=>.op (.fad 22 c) fun c=>Lg 0 c fun c=>Sf 16 a c fun _=>.op (.bO x0) fun a=>.op (.fad 14 a) fun a=>.op (.ld1 a) fun c=>.op (.fad 2 b) fun b=>Lg 0 b fun b=>Lf 14 x0 fun d=>Ln 0 d fun d=>Cl eU [b,d] fun b=>.chk (.ld1 a) c (Ix 2 c b fun a=>.op (.fad 0 a) fun a=>.op (.st 1 a (.int .i64 (-1))) fun _=>Lf 29 x0 fun a=>.op (.build gX []) fun b=>Ix 12 a x1 fun a=>.op (.st 12 a b) fun _=>.fin [])
theorem ahg (x0 x1 x2 x3:AV):CC Tryz.prog vX [x0,x1,x2,x3] (QT x0 x1 x2 x3):=cc Tryz.func230 [] (fun r=>if r=1 then[(0,[]),(1,[]),(2,[]),(3,[]),(4,[]),(5,[]),(6,[]),(7,[])] else if r=7 then[(0,[]),(1,[]),(2,[]),(3,[]),(4,[]),(5,[]),(6,[]),(7,[]),(8,[]),(9,[]),(10,[]),(11,[]),(12,[3]),(13,[]),(14,[]),(15,[])] else[])
end
theorem al7 {x:Wld} {k:Nat} {t:Task} {code stamp:Int} {d:bV} {y:aM} (hd:x.aI[t.h.toNat]? =some d) (hy:x.st[(stripe t.s.trace x.st.length).toNat]? =some y):lq x k t code stamp={x with aI:=x.aI.set t.h.toNat {d with code:=code,stamp:=stamp,lin:=x.time,res:=x.time,now:=x.w.now},st:=x.st.set (stripe t.s.trace x.st.length).toNat {y with held:=-1},tasks:=x.tasks.set k xk}:=by
 unfold lq gU;rw[kQ hd,kQ hy]
theorem yP {h:AH} {n b k:Nat} {x:Wld} {V:WV} {F:WF} {t:Task} {d:bV} {code stamp:Int} (w:PW n h b x V F) (ht:x.tasks[k]? =some t) (hd:x.aI[t.h.toNat]? =some d) (h0:0≤t.h) (h1:1≤(x.st.length:Int)):bE Tryz.prog vX [.ptr b 0,.int .i64 (k:Int),.int .i64 code,.int .i64 stamp] h fun v h'=>v= .tup []∧mZ n h.n h b F (lq x k t code stamp) h':=by
 obtain⟨v0,v1,v2,v3,v4,v5,v6,v7,v8,v9,v10⟩:=V
 obtain⟨y,hy⟩:=lD h1 t.s.trace
 have hsb:=iG (t:=t.s.trace) h1
 have hk:k < x.tasks.length:=(List.getElem?_eq_some_iff.1 ht).1
 have hdl:t.h.toNat < x.aI.length:=(List.getElem?_eq_some_iff.1 hd).1
 rw[al7 hd hy]
 obtain⟨b1,o1,e1⟩:=w.r1.sl hy;have e1:v1= .sl b1 o1 x.st.length:=e1;subst e1;have l1:b1 < _:=fO w.r1;obtain⟨b9,o9,e9⟩:=w.r9.sl ht;have e9:v9= .sl b9 o9 x.tasks.length:=e9;subst e9;have l9:b9 < _:=fO w.r9;obtain⟨b10,o10,e10⟩:=w.r10.sl hd;have e10:v10= .sl b10 o10 x.aI.length:=e10;subst e10;have l10:b10 < _:=fO w.r10
 have bk:Bk h b [AV.int .i64 x.c.cB,AV.int .i64 x.c.wait,AV.int .i64 x.c.budget,AV.int .i64 x.c.cache,AV.int .i64 x.c.queue,AV.int .i64 x.c.rate,AV.int .i64 x.c.aV,AV.int .i64 x.c.rule.kind,AV.int .i64 x.c.rule.n,AV.str x.c.rule.key,AV.str x.c.rule.text,v0,AV.int .i64 x.time,AV.bool x.shut,(AV.sl b1 o1 x.st.length),AV.int .i64 x.bQ,AV.int .i64 x.b.rate,AV.int .i64 x.b.aV,AV.int .i64 x.b.tokens,AV.int .i64 x.b.at_,v2,AV.int .i64 x.used,AV.int .i64 x.w.now,v3,v4,v5,v6,v7,v8,(AV.sl b9 o9 x.tasks.length),(AV.sl b10 o10 x.aI.length),AV.int .i64 x.next] 0:=w.bk
 have s:=w.ws
 obtain⟨fJ,fP,dW,nV,oz,ek,nU,nT,oC,jV,oq,oh,om,mY,mM,jq⟩:=s.fH (bb:=b9) (off:=o9) ht rfl;have ek:EK Task _ _ _ b9 (o9+k * 12) [.int .i64 t.op,.int .i64 t.pc,.int .i64 t.s.trace,.int .i64 t.s.id,.int .i64 t.s.start,.int .i64 t.s.fin,.bool t.s.err,fJ,.int .i64 t.trace,.int .i64 t.stamp,fP,.int .i64 t.h] _ _ _ _:=ek
 have at9:=ek.at_
 obtain⟨MG,amK,anM,ed,amJ,anN,anJ,anL,anI,anK,anO,WM,GK⟩:=s.VP (bb:=b10) (off:=o10) hd rfl;have ed:EK bV _ _ _ b10 (o10+t.h.toNat * 20) [.int .i64 d.op,.int .i64 d.task,.int .i64 d.s.trace,.int .i64 d.s.id,.int .i64 d.s.start,.int .i64 d.s.fin,.bool d.s.err,MG,.int .i64 d.trace,.int .i64 d.stamp,.int .i64 d.code,.bool d.keep,.bool d.void,.int .i64 d.took,.int .i64 d.n,.int .i64 d.forgot,.int .i64 d.now,.int .i64 d.inv,.int .i64 d.lin,.int .i64 d.res] _ _ _ _:=ed
 refine ahg _ _ _ _ ?_
 unfold QT
 (repeat' first|((with_reducible refine dQ ?_);refine EK.st_ (ed.ext aA) (by rfl) (by rfl) bP ?_;intro h_ ed k_ n_)|refine vsw ?_|(with_reducible refine aS ?_)|(with_reducible refine pG ?_)|((with_reducible refine aP ?_);first|refine bN (by omega) ?_|refine dY (by omega) (by omega) ?_)|((with_reducible refine ay eU ?_);refine aK iq ?_)|fail)
 obtain⟨x1,F1,e1,s1,m1⟩:=GK _ {d with code:=code,stamp:=stamp,lin:=x.time,res:=x.time,now:=x.w.now} rfl ed
 have hy1:x1.st[(stripe t.s.trace x.st.length).toNat]? =some y:=by rw[e1];exact hy
 clear GK WM jq mM
 obtain⟨lg,kF,yu,ey,xQ,uT,rW,yj,yg,yh,rX,rO,lZ⟩:=s1.kT (bb:=b1) (off:=o1) hy1 rfl;have ey:EK aM _ _ _ b1 (o1+(stripe t.s.trace x.st.length).toNat * 2) [.int .i64 y.held,lg] _ _ _ _:=ey
 (repeat' first|((with_reducible refine dQ ?_);refine EK.st_ (ey.ext aA) (by rfl) (by rfl) bP ?_;intro h_ ey k_ n_)|refine vsw ?_|(with_reducible refine aS ?_)|((with_reducible refine aP ?_);refine bN (by omega) ?_)|fail)
 obtain⟨x2,F2,e2,s2,m2⟩:=lZ _ {y with held:=-1} rfl ey
 have ht2:x2.tasks[k]? =some t:=by rw[e2,e1];exact ht
 obtain⟨eO,eG,jL,jK,jS,et,jJ,jI,jT,jP,jR,jO,jQ,jU,iU,fB⟩:=s2.fH (bb:=b9) (off:=o9) ht2 rfl;have et:EK Task _ _ _ b9 (o9+k * 12) [.int .i64 t.op,.int .i64 t.pc,.int .i64 t.s.trace,.int .i64 t.s.id,.int .i64 t.s.start,.int .i64 t.s.fin,.bool t.s.err,eO,.int .i64 t.trace,.int .i64 t.stamp,eG,.int .i64 t.h] _ _ _ _:=et
 refine EK.st0 et (by rfl) (by rfl) bP ?_
 intro h4 et k4 n4
 obtain⟨x3,F3,e3,s3,m3⟩:=iU h4 xk .au .au [] [] et aj.au aj.au Own.nil (by simp)
 (repeat' first|refine vsw ?_|(refine br ?_ ?_<;>first|exact bx|intro _)|((with_reducible refine aP ?_);((first|refine ix ?_|refine ixi ?_|(refine ixg ?_;intro _ _)|(refine kZ ?_;intro _ _));first|rintro _ _ _ _ _ ⟨rfl,rfl⟩ _|rintro _ _ _ _ _ ⟨_,rfl,_⟩ _|rintro _ _ _ _ _ ⟨_,_,_,_,rfl,rfl,_,_⟩ _|intro _ _ _ _ _ _ _))|(refine sx ?_;intro _ _)|((with_reducible refine bF ?_);simp only[g0,g1,g2]))
 subst e3 e2 e1
 exact⟨rfl,_,rfl,rfl,s3.done⟩
end Go.Proofs.YtekfdoknfcedpaaGreat
