import Derived.Test.YtkdjapahgmflbaaGreatDW90
set_option linter.unusedSimpArgs false
set_option linter.unusedVariables false
set_option maxHeartbeats 4000000
set_option maxRecDepth 20000
namespace Go.Proofs.YtkdjapahgmflbaaGreat
open Go Go.Ab
attribute[local irreducible] cZ
section
def Uv (x0 x1:AV):Prog:=Lf 29 x0 fun a=>Ix 12 a x1 fun a=>Lf 20 x0 fun b=>.op (.bg a) fun c=>.op (.fad 2 c) fun c=>Lg 0 c fun c=>.op (.alloc [.int .i64 0,.int .i64 0,.bool false]) fun d=>Cl oD [b,c] fun b=>.chk (.alloc [.int .i64 0,.int .i64 0,.bool false]) d (.op (.ext b 0) fun c=>.op (.ext b 1) fun b=>.op (.st 3 d c) fun _=>Lf 13 x0 fun c=>.scope (.ite c (Cl xk [x0,x1,.int .i64 4,.int .i64 0] fun _=>.leaf 0 []) (Gf b true 2 d fun c=>Pk b c (.bool false) fun c=>.scope (.ite c (Lf 27 x0 fun b=>Ln 0 b fun b=>.op (.bg x0) fun c=>.op (.fad 0 c) fun c=>Lg 4 c fun c=>Bn .geq b c fun b=>.ite b (.fin [.val (.bool false)]) (.op (.bg x0) fun b=>.op (.fad 27 b) fun b=>.op (.ld1 b) fun c=>.op (.fad 1 d) fun e=>.op (.ld1 e) fun f=>.op (.bg a) fun a=>.op (.fad 2 a) fun a=>Ld 6 a fun a=>Cl kY [a] fun a=>.chk (.ld1 b) c (.chk (.ld1 e) f (.op (.build iO [(0,1,f),(1,6,a)]) fun a=>.op (.aU 7 1 iO [(0,7,a)]) fun a=>.op (.app 7 72 c a) fun a=>Sf 27 x0 a fun _=>Lg 1 d fun a=>Cl xk [x0,x1,.int .i64 2,a] fun _=>.leaf 0 [])))) (.scope (.ite b (Lg 1 d fun a=>Cl xk [x0,x1,.int .i64 3,a] fun _=>.leaf 0 []) (.op (.bg x0) fun b=>.op (.fad 21 b) fun b=>.op (.ld1 b) fun c=>.op (.bg a) fun d=>.op (.fad 2 d) fun d=>Ld 6 d fun d=>.op (.bg x0) fun e=>.op (.fad 0 e) fun e=>.op (.fad 2 e) fun e=>.op (.ld1 e) fun f=>Cl kJ [d] fun d=>.chk (.ld1 b) c (.chk (.ld1 e) f (Bn .add c d fun b=>Bn .leq b f fun b=>.scope (.ite b (Cl Lb [x0,x1] fun _=>.leaf 0 []) (Cl wW [x0,x1] fun _=>Sf 1 a (.int .i64 2) fun _=>.leaf 0 [])) (fun _=>.leaf 0 []) fun a b=>aB a 1 (.leaf 1 b) .bad)))) (fun _=>.leaf 0 []) fun a b=>aB a 1 (.leaf 1 b) .bad)) (fun _=>.leaf 0 []) fun a b=>aB a 1 (.leaf 1 b) .bad)) (fun _=>.fin [.val (.bool true)]) fun a b=>aB a 1 (.leaf 1 b) .bad)
theorem aiw (x0 x1:AV):CC Tryz.prog KZ [x0,x1] (Uv x0 x1):=cc Tryz.func120 [] (fun r=>if r=2 then[(0,[]),(1,[]),(2,[]),(3,[]),(4,[]),(5,[]),(6,[]),(7,[]),(8,[]),(13,[]),(9,[13]),(10,[]),(11,[]),(12,[]),(14,[]),(15,[])] else if r=8 then[(0,[]),(1,[]),(2,[]),(3,[]),(4,[]),(5,[]),(6,[]),(7,[]),(8,[]),(9,[]),(10,[])] else if r=10 then[(0,[]),(1,[]),(2,[]),(3,[]),(4,[]),(5,[]),(6,[]),(7,[]),(8,[]),(9,[]),(10,[]),(11,[4,6]),(12,[]),(13,[]),(14,[]),(15,[]),(16,[]),(17,[])] else if r=14 then[(0,[]),(1,[]),(2,[]),(3,[]),(4,[]),(5,[]),(6,[]),(7,[]),(10,[]),(11,[]),(12,[]),(13,[]),(14,[]),(8,[3,14]),(9,[]),(15,[]),(16,[])] else[])
end
theorem alC {P:Program} {h:AH} {Q:Nat→List AV→AH→Prop} {c:Bool} {p q:Prog} (hc:c=true) (hk:p.awp P h Q):(Prog.ite (.bool c) p q).awp P h Q:=by subst hc;simp only[Prog.awp];simpa using hk
theorem wU {h:AH} {xs:List bJ} {x0:AV} {F:List Nat} {k:Int} {v:bJ} {ok:Bool} (hv:vOf xs k=(v,ok)) (r:au h x0 xs F):aM Tryz.prog oD [x0,.int .i64 k] h (.tup [.agg [.int .i64 v.trace,.int .i64 v.stamp,.bool v.keep],.bool ok]):=by
 have:=abo (k:=k) r;rw[hv] at this;exact this
noncomputable def Ch (x:Wld) (k:Nat) (t:Task):Option Wld:=
 if x.shut=true then some (oq x k t 4 0)
 else if(vOf x.cache t.s.trace).2=true then
  (if(vOf x.cache t.s.trace).1.keep=true then
   (if x.c.queue≤(x.queue.length:Int) then none else some (oq {x with queue:=x.queue++[⟨(vOf x.cache t.s.trace).1.stamp,t.s⟩]} k t 2 (vOf x.cache t.s.trace).1.stamp))
  else some (oq x k t 3 (vOf x.cache t.s.trace).1.stamp))
 else if x.c.budget < wr (x.used+dW t.s) then some {x with st:=mG k x.st,tasks:=x.tasks.set k {t with pc:=2}}
 else some (oq (jQ x t) k t 1 (jA x t))
theorem ah5 {h:AH} {n b k:Nat} {x:Wld} {V:WV} {F:WF} {t:Task} {d:bI} (w:PW n h b x V F) (ht:x.tasks[k]? =some t) (hd:x.aF[t.h.toNat]? =some d) (h0:0≤t.h) (h1:1≤(x.st.length:Int)) (hs:Sz.sz x≤33554432):bN Tryz.prog KZ [.ptr b 0,.int .i64 (k:Int)] h (Stp n h b F (Ch x k t)):=by
 obtain⟨v0,v1,v2,v3,v4,v5,v6,v7,v8,v9,v10⟩:=V
 have hk:k < x.tasks.length:=(List.getElem?_eq_some_iff.1 ht).1
 have htk:=(vQ hs ht).1
 have s:=w.ws
 obtain⟨b9,o9,e9⟩:=w.r9.sl ht;have e9:v9= .sl b9 o9 x.tasks.length:=e9;subst e9;have l9:b9 < _:=dZ w.r9
 have bk:=bkE w
 have hb:=bk.1
 have r2:au h v2 x.cache F.f2:=w.r2
 have r7:au h v7 x.queue F.f7:=w.r7
 have b7:b ∉ F.f7:=w.n7
 obtain⟨dI,dJ,dU,j6,kG,ek,j5,j4,kH,iT,kF,kD,kE,jT,jk,gW⟩:=s.dL (bb:=b9) (off:=o9) ht rfl;have ek:EK Task _ _ _ b9 (o9+k * 12) [.int .i64 t.op,.int .i64 t.pc,.int .i64 t.s.trace,.int .i64 t.s.id,.int .i64 t.s.start,.int .i64 t.s.fin,.bool t.s.err,dI,.int .i64 t.trace,.int .i64 t.stamp,dJ,.int .i64 t.h] _ _ _ _:=ek
 have at9:=ek.at_
 have hqs:x.queue.length≤33554432:=by rw[wsz] at hs;omega
 have n97:b9 ∉ F.f7:=fun hm=>w.sep.dis 9 7 _ _ (by decide) rfl rfl b9 jT hm
 refine aiw _ _ ?_
 unfold Uv
 obtain⟨L,hL0⟩:∃ L,L=Ch x k t:=⟨_,rfl⟩
 rw[←hL0]
 unfold Ch at hL0
 obtain⟨⟨vt,vst,vk⟩,ok,hv⟩:∃ v ok,vOf x.cache t.s.trace=(v,ok):=⟨_,_,rfl⟩
 rw[hv] at hL0
 by_cases hsh:x.shut=true
 ·rw[if_pos hsh] at hL0
  rw[hL0]
  (repeat' first|((with_reducible refine alC hsh ?_))|refine vsx ?_|refine ao4 ?_|((with_reducible refine fU ?_);refine fT aV ?_)|((with_reducible refine aA oD ?_);refine aJ (wU hv ah) ?_)|refine gS ?_|fail)
  refine s.now (fun s2=>?_) aD
  refine aK (Aa s2.w ht hd h0 h1) ?_
  rintro _ h9 ⟨rfl,W⟩
  obtain⟨V9,F9,s9,-⟩:=s2.call W
  (repeat' first|refine vsw ?_|fail)
  exact⟨rfl,_,rfl,rfl,s9.done⟩
 have hsh:x.shut=false:=by simpa using hsh
 rw[if_neg (by rw[hsh];decide)] at hL0
 have hql:=r7.small
 cases ok with
 |true=>
  rw[if_pos rfl] at hL0
  cases vk with
  |true=>
   rw[if_pos rfl] at hL0
   by_cases hq:x.c.queue≤(x.queue.length:Int)
   ·rw[if_pos hq] at hL0
    rw[hL0]
    (repeat' first|((with_reducible refine oW hsh ?_))|refine vsw ?_|refine ao4 ?_|((with_reducible refine fU ?_);refine fT aV ?_)|(refine br ?_ ?_<;>first|exact bo|intro _)|((with_reducible refine aA oD ?_);refine aJ (wU hv ah) ?_)|fail)
    exact⟨rfl,_,rfl,rfl,Kp.iA aD⟩
   ·rw[if_neg hq] at hL0
    rw[hL0]
    (repeat' first|((with_reducible refine oW hsh ?_))|refine vsx ?_|refine ao4 ?_|((with_reducible refine fU ?_);refine fT aV ?_)|(refine br ?_ ?_<;>first|exact bo|intro _)|((with_reducible refine aA oD ?_);refine aJ (wU hv ah) ?_)|refine gS ?_|fail)
    refine aK (rY t.s (by omega) _ _ _ ⟨_,rfl,(ah:au _ dI t.s.attrs dU)⟩) ?_
    rintro _ h2 ⟨e2,_,G,rfl,⟨z,rfl,zq⟩,oG⟩
    have n2:=e2.1;(try simp only[aH,aN] at n2)
    (repeat' first|refine vsx ?_|fail)
    have s2:=s.ext (aD:Ext h h2)
    have oG':∀ c∈G,h.n+1≤c:=fun c hc=>by simpa using(oG.2 c hc).1
    refine s2.I4 (a:=⟨vst,t.s⟩) (G:=G) (q:=h.n) ⟨_,rfl,zq⟩ (oG.mono (by simp only[aH,aN];omega) fun _ _=>rfl) ⟨by have:=w.nb;omega,Nat.le_refl _⟩ (fun c hc=>⟨by have:=oG' c hc;omega,fun hm=>by have:=oG' c hc;have:=s.lt c hm;omega⟩) (by omega) (by omega) ?_
    intro v' h3 k3 b3 cv3 fin
    have n3:=k3.1
    have bk3:Bk h3 b [AV.int .i64 x.c.eU,AV.int .i64 x.c.wait,AV.int .i64 x.c.budget,AV.int .i64 x.c.cache,AV.int .i64 x.c.queue,AV.int .i64 x.c.rate,AV.int .i64 x.c.bn,AV.int .i64 x.c.rule.kind,AV.int .i64 x.c.rule.n,AV.str x.c.rule.key,AV.str x.c.rule.text,v0,AV.int .i64 x.time,AV.bool x.shut,v1,AV.int .i64 x.bS,AV.int .i64 x.b.rate,AV.int .i64 x.b.bn,AV.int .i64 x.b.tokens,AV.int .i64 x.b.at_,v2,AV.int .i64 x.used,AV.int .i64 x.w.now,v3,v4,v5,v6,v7,v8,(AV.sl b9 o9 x.tasks.length),v10,AV.int .i64 x.next] 0:=b3
    have hb3:=bk3.1
    (repeat' first|((with_reducible refine bW ?_);refine kU cv3 rfl (qQ bk3 aX) ?_)|refine vsx ?_|(with_reducible refine aW ?_)|fail)
    refine fin (fun x1 F1 e1 s3 m3=>?_) (fP hb3) rfl fO
    subst e1
    refine aK (Aa s3.w ht hd h0 h1) ?_
    rintro _ h9 ⟨rfl,W⟩
    obtain⟨V9,F9,s9,-⟩:=s3.call W
    (repeat' first|refine vsw ?_|fail)
    exact⟨rfl,_,rfl,rfl,s9.done⟩
  |false=>
   rw[if_neg (fun q=>Bool.false_ne_true q)] at hL0
   rw[hL0]
   (repeat' first|((with_reducible refine oW hsh ?_))|refine vsx ?_|refine ao4 ?_|((with_reducible refine fU ?_);refine fT aV ?_)|((with_reducible refine aA oD ?_);refine aJ (wU hv ah) ?_)|refine gS ?_|fail)
   refine s.now (fun s2=>?_) aD
   refine aK (Aa s2.w ht hd h0 h1) ?_
   rintro _ h9 ⟨rfl,W⟩
   obtain⟨V9,F9,s9,-⟩:=s2.call W
   (repeat' first|refine vsw ?_|fail)
   exact⟨rfl,_,rfl,rfl,s9.done⟩
 |false=>
  rw[if_neg (fun q=>Bool.false_ne_true q)] at hL0
  by_cases hbu:x.c.budget < wr (x.used+dW t.s)
  ·rw[if_pos hbu] at hL0
   rw[hL0]
   have NT:x.c.budget < IntKind.i64.wrap (x.used+dW t.s):=hbu
   (repeat' first|((with_reducible refine oW hsh ?_))|(with_reducible refine eu ?_)|refine vsx ?_|refine ao4 ?_|((with_reducible refine fU ?_);refine fT aV ?_)|(refine br ?_ ?_<;>first|exact bo|intro _)|((with_reducible refine aA oD ?_);refine aJ (wU hv ah) ?_)|((with_reducible refine aA kJ ?_);(refine aJ (sK (s:=t.s) (F:=dU) (by omega) ah) ?_))|refine gS ?_|fail)
   all_goals try(exfalso;omega)
   refine s.now (fun s2=>?_) aD
   refine aK (uL s2.w h1) ?_
   rintro _ h9 ⟨rfl,W⟩
   obtain⟨V9,F9,s9,e9v,-,-⟩:=ni s2 W
   obtain⟨x9,hx9,s9⟩:=s9.gen
   obtain⟨v0,v1,v2,v3,v4,v5,v6,v7,v8,v9,v10⟩:=V9
   have e9v:v9= .sl b9 o9 x.tasks.length:=e9v
   subst e9v
   have ht9:x9.tasks[k]? =some t:=by rw[hx9];exact ht
   obtain⟨bZ,bY,gF,gD,gU,et,gM,gL,gI,fZ,gT,gP,gQ,gV,fF,dH⟩:=s9.dL (bb:=b9) (off:=o9) ht9 rfl;have et:EK Task _ _ _ b9 (o9+k * 12) [.int .i64 t.op,.int .i64 t.pc,.int .i64 t.s.trace,.int .i64 t.s.id,.int .i64 t.s.start,.int .i64 t.s.fin,.bool t.s.err,bZ,.int .i64 t.trace,.int .i64 t.stamp,bY,.int .i64 t.h] _ _ _ _:=et
   (repeat' first|((with_reducible refine bW ?_);refine EK.st_ (et.ext aD) (by rfl) (by rfl) aX ?_;intro h_ et k_ n_)|refine vsw ?_|(with_reducible refine aW ?_)|fail)
   obtain⟨x2,F2,e2,s2',m2⟩:=dH _ {t with pc:=2} rfl rfl et
   rw[hx9] at e2
   subst e2
   exact⟨rfl,_,rfl,rfl,s2'.done⟩
  ·rw[if_neg hbu] at hL0
   rw[hL0]
   have NT: ¬ x.c.budget < IntKind.i64.wrap (x.used+dW t.s):=hbu
   (repeat' first|((with_reducible refine oW hsh ?_))|(with_reducible refine eu ?_)|refine vsx ?_|refine ao4 ?_|((with_reducible refine fU ?_);refine fT aV ?_)|(refine br ?_ ?_<;>first|exact bo|intro _)|((with_reducible refine aA oD ?_);refine aJ (wU hv ah) ?_)|((with_reducible refine aA kJ ?_);(refine aJ (sK (s:=t.s) (F:=dU) (by omega) ah) ?_))|refine gS ?_|fail)
   all_goals try(exfalso;omega)
   refine s.now (fun s2=>?_) aD
   refine aK (aiM s2.w ht hd h0 h1 hs) ?_
   rintro _ h9 ⟨rfl,W⟩
   obtain⟨V9,F9,s9,-⟩:=s2.call W
   (repeat' first|refine vsw ?_|fail)
   exact⟨rfl,_,rfl,rfl,s9.done⟩
end Go.Proofs.YtkdjapahgmflbaaGreat
