import Derived.Test.YtekfdoknfcedpaaGreatDW79
set_option linter.unusedSimpArgs false
set_option linter.unusedVariables false
set_option maxHeartbeats 2000000
namespace Go.Proofs.YtekfdoknfcedpaaGreat
open Go Go.Ab
attribute[local irreducible] dI
section
def Px (x0 x1:AV):Prog:=Lf 14 x0 fun a=>Cl IQ [a] fun a=>.op (.ext a 0) fun b=>.op (.ext a 1) fun a=>.op (.alloc [.int .i64 0,.int .i64 0,.int .i64 0,.au]) fun c=>.op (.st 4 c b) fun _=>.op (.una .not a) fun a=>.ite a (Lf 29 x0 fun a=>Ix 12 a x1 fun a=>Sg 1 a (.int .i64 0) fun _=>.fin [.val (.bool true)]) (Lg 0 c fun a=>Lf 14 x0 fun b=>Ln 0 b fun b=>Cl eU [a,b] fun a=>Lf 14 x0 fun b=>Ix 2 b a fun b=>Lg 0 b fun b=>.op (.bin 0 .neq b (.int .i64 (-1))) fun b=>.ite b (.fin [.val (.bool false)]) (Lf 14 x0 fun b=>Ix 2 b a fun a=>Sg 0 a x1 fun _=>Lf 29 x0 fun a=>Ix 12 a x1 fun a=>Sg 1 a (.int .i64 3) fun _=>Lf 29 x0 fun a=>Lg 0 c fun b=>Ix 12 a x1 fun a=>Sg 8 a b fun _=>Lf 29 x0 fun a=>Lg 1 c fun b=>Ix 12 a x1 fun a=>Sg 9 a b fun _=>.fin [.val (.bool true)]))
theorem afw (x0 x1:AV):CC Tryz.prog Je [x0,x1] (Px x0 x1):=cc Tryz.func151 [] (fun r=>if r=5 then[(0,[]),(1,[]),(2,[]),(3,[]),(4,[]),(5,[]),(6,[]),(7,[]),(8,[])] else if r=10 then[(0,[]),(1,[]),(2,[]),(3,[]),(4,[]),(5,[]),(6,[]),(7,[]),(8,[]),(9,[])] else if r=11 then[(0,[]),(1,[]),(2,[]),(3,[]),(4,[]),(5,[]),(6,[]),(7,[]),(8,[]),(9,[])] else[])
end
def Stp (n:Nat) (h:AH) (b:Nat) (F:WF) (o:Option Wld) (v:AV) (h':AH):Prop:=match o with
 |some y=>v= .bool true∧mZ n h.n h b F y h'
 |none=>v= .bool false∧Kp h h' (b::F.a)
theorem aez {h:AH} {n b k:Nat} {x:Wld} {V:WV} {F:WF} {t:Task} (w:PW n h b x V F) (ht:x.tasks[k]? =some t) (h1:1≤(x.st.length:Int)) (hs:x.st.length+szs x.st≤67108864):bE Tryz.prog Je [.ptr b 0,.int .i64 (k:Int)] h (Stp n h b F (nQ x k t)):=by
 obtain⟨v0,v1,v2,v3,v4,v5,v6,v7,v8,v9,v10⟩:=V
 have hk:k < x.tasks.length:=(List.getElem?_eq_some_iff.1 ht).1
 have s:=w.ws
 have r1:aj h v1 x.st F.f1:=w.r1
 obtain⟨y0,hy0⟩:∃ y0,x.st[0]? =some y0:=⟨x.st[0]'(by omega),List.getElem?_eq_getElem _⟩
 obtain⟨b1,o1,e1⟩:=w.r1.sl hy0;have e1:v1= .sl b1 o1 x.st.length:=e1;subst e1;have l1:b1 < _:=fO w.r1;obtain⟨b9,o9,e9⟩:=w.r9.sl ht;have e9:v9= .sl b9 o9 x.tasks.length:=e9;subst e9;have l9:b9 < _:=fO w.r9
 have bk:Bk h b [AV.int .i64 x.c.cB,AV.int .i64 x.c.wait,AV.int .i64 x.c.budget,AV.int .i64 x.c.cache,AV.int .i64 x.c.queue,AV.int .i64 x.c.rate,AV.int .i64 x.c.aV,AV.int .i64 x.c.rule.kind,AV.int .i64 x.c.rule.n,AV.str x.c.rule.key,AV.str x.c.rule.text,v0,AV.int .i64 x.time,AV.bool x.shut,(AV.sl b1 o1 x.st.length),AV.int .i64 x.bQ,AV.int .i64 x.b.rate,AV.int .i64 x.b.aV,AV.int .i64 x.b.tokens,AV.int .i64 x.b.at_,v2,AV.int .i64 x.used,AV.int .i64 x.w.now,v3,v4,v5,v6,v7,v8,(AV.sl b9 o9 x.tasks.length),v10,AV.int .i64 x.next] 0:=w.bk
 refine afw _ _ ?_
 unfold Px
 (repeat' first|refine vsw ?_|(with_reducible refine aS ?_)|fail)
 refine aG (ada (l:=x.st) hs r1) ?_
 rintro _ h2 ⟨e2,_,G,rfl,⟨z,rfl,zq⟩,oG⟩
 have n2:=e2.1
 cases ho:oldest (allT x.st) with
 |none=>
  unfold nQ;rw[ho]
  obtain⟨fJ,fP,dW,nV,oz,ek,nU,nT,oC,jV,oq,oh,om,mY,mM,jq⟩:=s.fH (bb:=b9) (off:=o9) ht rfl;have ek:EK Task _ _ _ b9 (o9+k * 12) [.int .i64 t.op,.int .i64 t.pc,.int .i64 t.s.trace,.int .i64 t.s.id,.int .i64 t.s.start,.int .i64 t.s.fin,.bool t.s.err,fJ,.int .i64 t.trace,.int .i64 t.stamp,fP,.int .i64 t.h] _ _ _ _:=ek
  simp only[Option.isSome_none]
  (repeat' first|((with_reducible refine dQ ?_);refine EK.st_ (ek.ext aA) (by rfl) (by rfl) bP ?_;intro h_ ek k_ n_)|refine vsw ?_|(with_reducible refine aS ?_)|((with_reducible refine aP ?_);refine bN (by omega) ?_)|fail)
  obtain⟨x1,F1,e1,s1,m1⟩:=jq _ {t with pc:=0} rfl rfl ek
  subst e1
  exact⟨rfl,_,rfl,rfl,s1.done⟩
 |some o=>
  obtain⟨y,hy⟩:=lD h1 o.id
  have hsb:=iG (t:=o.id) h1
  have hh:iK x o.id=y.held:=KH hy
  unfold nQ;rw[ho]
  obtain⟨lg,kF,yu,ey,xQ,uT,rW,yj,yg,yh,rX,rO,lZ⟩:=s.kT (bb:=b1) (off:=o1) hy rfl;have ey:EK aM _ _ _ b1 (o1+(stripe o.id x.st.length).toNat * 2) [.int .i64 y.held,lg] _ _ _ _:=ey
  have at1:=ey.at_
  simp only[Option.isSome_some,Option.getD_some]
  by_cases hf:y.held= -1
  ·rw[if_neg (by omega)]
   (repeat' first|((with_reducible refine dQ ?_);refine EK.st_ (ey.ext aA) (by rfl) (by rfl) bP ?_;intro h_ ey k_ n_)|refine vsw ?_|(with_reducible refine aS ?_)|((with_reducible refine aP ?_);first|refine bN (by omega) ?_|refine dY (by omega) (by omega) ?_)|(refine br ?_ ?_<;>first|exact bo|intro _)|((with_reducible refine ay eU ?_);refine aK iq ?_)|fail)
   obtain⟨x1,F1,e1,s1,m1⟩:=lZ _ {y with held:=k} rfl ey
   have ht1:x1.tasks[k]? =some t:=by rw[e1];exact ht
   obtain⟨fJ,fP,dW,nV,oz,ek,nU,nT,oC,jV,oq,oh,om,mY,mM,jq⟩:=s1.fH (bb:=b9) (off:=o9) ht1 rfl;have ek:EK Task _ _ _ b9 (o9+k * 12) [.int .i64 t.op,.int .i64 t.pc,.int .i64 t.s.trace,.int .i64 t.s.id,.int .i64 t.s.start,.int .i64 t.s.fin,.bool t.s.err,fJ,.int .i64 t.trace,.int .i64 t.stamp,fP,.int .i64 t.h] _ _ _ _:=ek
   (repeat' first|((with_reducible refine dQ ?_);refine EK.st_ (ek.ext aA) (by rfl) (by rfl) bP ?_;intro h_ ek k_ n_)|refine vsw ?_|(with_reducible refine aS ?_)|((with_reducible refine aP ?_);refine bN (by omega) ?_)|fail)
   obtain⟨x2,F2,e2,s2,m2⟩:=jq _ {t with pc:=3,trace:=o.id,stamp:=o.stamp} rfl rfl ek
   have e:x2={x with st:=gU x.st o.id k,tasks:=x.tasks.set k {t with pc:=3,trace:=o.id,stamp:=o.stamp}}:=by
    rw[e2,e1,wS hy]
   rw[e] at s2
   exact⟨rfl,_,rfl,rfl,s2.done⟩
  ·rw[if_pos (by omega)]
   (repeat' first|refine vsw ?_|(with_reducible refine aS ?_)|((with_reducible refine aP ?_);refine dY (by omega) (by omega) ?_)|(refine br ?_ ?_<;>first|exact bo|intro _)|((with_reducible refine ay eU ?_);refine aK iq ?_)|fail)
   exact⟨rfl,_,rfl,rfl,Kp.gY aA⟩
end Go.Proofs.YtekfdoknfcedpaaGreat
