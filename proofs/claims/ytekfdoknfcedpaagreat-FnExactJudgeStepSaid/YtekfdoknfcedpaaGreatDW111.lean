import Derived.Test.YtekfdoknfcedpaaGreatDW109
import Derived.Test.YtekfdoknfcedpaaGreatDW98
set_option linter.unusedSimpArgs false
set_option linter.unusedVariables false
set_option maxHeartbeats 4000000
set_option maxRecDepth 20000
namespace Go.Proofs.YtekfdoknfcedpaaGreat
open Go Go.Ab Go.RowKit
attribute[local irreducible] dK
section
def OD (x0 x1:AV):Prog:=Lf 29 x0 fun a=>Ix 12 a x1 fun a=>Lg 1 a fun a=>Bn .eql a (.int .i64 0) fun b=>.scope (.ite b (Lf 29 x0 fun a=>Ix 12 a x1 fun a=>Lg 8 a fun a=>Lf 14 x0 fun b=>Ln 0 b fun b=>Cl iP [a,b] fun a=>Lf 14 x0 fun b=>Ix 2 b a fun b=>Lg 0 b fun b=>.op (.bin 0 .neq b (.int .i64 (-1))) fun b=>.ite b (.fin [.val (.bool false)]) (Lf 14 x0 fun b=>Ix 2 b a fun a=>Sg 0 a x1 fun _=>Lf 29 x0 fun a=>Ix 12 a x1 fun a=>Sg 1 a (.int .i64 1) fun _=>.leaf 0 [])) (Bn .eql a (.int .i64 1) fun b=>.scope (.ite b (Lf 15 x0 fun a=>.op (.bin 0 .neq a (.int .i64 (-1))) fun a=>.ite a (.fin [.val (.bool false)]) (Sf 15 x0 x1 fun _=>Lf 29 x0 fun a=>Ix 12 a x1 fun a=>Sg 1 a (.int .i64 2) fun _=>.leaf 0 [])) (Bn .eql a (.int .i64 2) fun a=>.scope (.ite a (Cl Jj [x0,x1] fun _=>.leaf 0 []) (Cl IL [x0,x1] fun a=>.op (.una .not a) fun a=>.ite a (.fin [.val (.bool false)]) (.leaf 0 []))) (fun _=>.leaf 0 []) fun a b=>aA a 1 (.leaf 1 b) .bad)) (fun _=>.leaf 0 []) fun a b=>aA a 1 (.leaf 1 b) .bad)) (fun _=>Lf 12 x0 fun a=>Bn .add a (.int .i64 1) fun a=>Sf 12 x0 a fun _=>.fin [.val (.bool true)]) fun a b=>aA a 1 (.leaf 1 b) .bad
theorem afr (x0 x1:AV):CC Tryz.prog IK [x0,x1] (OD x0 x1):=cc Tryz.func32 [0] (fun r=>if r=5 then[(0,[]),(1,[]),(2,[]),(3,[]),(4,[]),(5,[]),(6,[]),(7,[]),(8,[]),(9,[]),(10,[]),(11,[]),(12,[]),(13,[]),(14,[])] else[])
def MN (x0 x1:AV):Prog:=.op (.box x0) fun a=>.op (.alloc ji) fun b=>Ld 32 a fun c=>Cl Bd [c] fun c=>.op (.alloc ji) fun d=>.op (.st 32 d c) fun _=>Ld 32 a fun c=>Cl tJ [c] fun c=>.op (.una .not c) fun c=>.gop c false (.mv x1) fun e=>.gop c false (.call bP [e,.int .i64 3,.int .i64 4]) fun e=>.gop c false (.una .not e) fun e=>Pk c (.bool true) e fun c=>Gf c false 29 a fun e=>.gop c false (.mv x1) fun f=>.gop c false (.idx 12 e f) fun e=>Gf c false 0 e fun e=>.gop c false (.bin 0 .neq e (.int .i64 2)) fun e=>Pk c (.bool true) e fun c=>.gop c false (.mv x1) fun e=>.gop c false (.call IK [d,e]) fun e=>.gop c false (.una .not e) fun e=>Pk c (.bool true) e fun c=>.ite c (Ld 32 a fun a=>Cl Bd [a] fun a=>.op (.st 32 b a) fun _=>.fin [.cn 32 b,.val (.bool false)]) (Ld 32 d fun a=>.op (.st 32 b a) fun _=>.fin [.cn 32 b,.val (.bool true)])
theorem ab7 (x0 x1:AV):CC Tryz.prog Hw [x0,x1] (MN x0 x1):=cc Tryz.func7
end
theorem ael {h:AH} {n b k:Nat} {x:Wld} {V:WV} {F:WF} {t:Task} {d:bN} (w:PW n h b x V F) (ht:x.tasks[k]? =some t) (hd:x.aH[t.h.toNat]? =some d) (h0:0≤t.h) (h1:1≤(x.st.length:Int)) (hs:Sz.sz x≤33554432) (hc:x.cache.length≤1048576) (hp:0≤t.pc∧t.pc≤3) (hh:t.pc=3→t.hand≠[]):cZ Tryz.prog IK [.ptr b 0,.int .i64 (k:Int)] h (Stp n h b F ((eZ x k t).map jv)):=by
 obtain⟨v0,v1,v2,v3,v4,v5,v6,v7,v8,v9,v10⟩:=V
 have hk:k < x.tasks.length:=(List.getElem?_eq_some_iff.1 ht).1
 have s:=w.ws
 obtain⟨y,hy⟩:=CQ h1 t.trace
 have hsb:=kL (t:=t.trace) h1
 have hhe:jM x t.trace=y.held:=TQ hy
 obtain⟨b1,o1,e1⟩:=w.r1.sl hy;have e1:v1= .sl b1 o1 x.st.length:=e1;subst e1;have l1:b1 < _:=jO w.r1;obtain⟨b9,o9,e9⟩:=w.r9.sl ht;have e9:v9= .sl b9 o9 x.tasks.length:=e9;subst e9;have l9:b9 < _:=jO w.r9
 have bk:Bk h b [AV.int .i64 x.c.bZ,AV.int .i64 x.c.wait,AV.int .i64 x.c.budget,AV.int .i64 x.c.cache,AV.int .i64 x.c.queue,AV.int .i64 x.c.rate,AV.int .i64 x.c.aW,AV.int .i64 x.c.rule.kind,AV.int .i64 x.c.rule.n,AV.str x.c.rule.key,AV.str x.c.rule.text,v0,AV.int .i64 x.time,AV.bool x.shut,(AV.sl b1 o1 x.st.length),AV.int .i64 x.bH,AV.int .i64 x.b.rate,AV.int .i64 x.b.aW,AV.int .i64 x.b.tokens,AV.int .i64 x.b.at_,v2,AV.int .i64 x.used,AV.int .i64 x.w.now,v3,v4,v5,v6,v7,v8,(AV.sl b9 o9 x.tasks.length),v10,AV.int .i64 x.next] 0:=w.bk
 have hb:=bk.1
 obtain⟨iN,iM,FT,FR,Gq,ek,FQ,FP,Gr,Gm,Gp,Gl,Gn,Gt,vR,su⟩:=s.iX (bb:=b9) (off:=o9) ht rfl;have ek:EK Task _ _ _ b9 (o9+k * 12) [.int .i64 t.op,.int .i64 t.pc,.int .i64 t.s.trace,.int .i64 t.s.id,.int .i64 t.s.start,.int .i64 t.s.fin,.bool t.s.err,iN,.int .i64 t.trace,.int .i64 t.stamp,iM,.int .i64 t.h] _ _ _ _:=ek
 have at9:=ek.at_
 refine afr _ _ ?_
 unfold OD
 have hcs:t.pc=0∨t.pc=1∨t.pc=2∨t.pc=3:=by omega
 rcases hcs with hp|hp|hp|hp
 ·have e:eZ x k t=if jM x t.trace≠-1 then none else some {x with st:=jQ x.st t.trace k,tasks:=x.tasks.set k {t with pc:=1}}:=by unfold eZ;rw[if_pos hp]
  rw[e]
  obtain⟨zk,Wm,XA,ey,Wi,XB,Xx,Xz,Xw,Xy,XC,Wj,zi⟩:=s.FC (bb:=b1) (off:=o1) hy rfl;have ey:EK aU _ _ _ b1 (o1+(stripe t.trace x.st.length).toNat * 2) [.int .i64 y.held,zk] _ _ _ _:=ey
  have at1:=ey.at_
  by_cases hf:y.held= -1
  ·rw[if_neg (by omega)]
   (repeat' first|((with_reducible refine fu ?_);refine EK.st_ (ey.ext aG) (by rfl) (by rfl) dB ?_;intro h_ ey k_ n_)|refine vsx ?_|(with_reducible refine aZ ?_)|(with_reducible refine bD ?_)|((with_reducible refine aC ?_);first|refine bn (by omega) ?_|refine bq (by omega) (by omega) ?_)|(refine br ?_ ?_<;>first|exact bx|intro _)|((with_reducible refine aB iP ?_);refine aQ qp ?_)|((with_reducible refine aC ?_);((first|refine ix ?_|refine ixi ?_|(refine ixg ?_;intro _ _)|(refine aL ?_;intro _ _));first|rintro _ _ _ _ _ ⟨rfl,rfl⟩ _|rintro _ _ _ _ _ ⟨_,rfl,_⟩ _|rintro _ _ _ _ _ ⟨_,_,_,_,rfl,rfl,_,_⟩ _|intro _ _ _ _ _ _ _))|(refine sx ?_;intro _ _)|((with_reducible refine aJ ?_);simp only[g0,g1,g2]))
   all_goals try(exfalso;omega)
   obtain⟨x1,F1,e1,s1,m1⟩:=zi _ {y with held:=k} rfl ey
   have ht1:x1.tasks[k]? =some t:=by rw[e1];exact ht
   obtain⟨fT,fQ,lg,kZ,nT,et,mq,mo,lH,kF,nS,nP,nR,nU,jR,iZ⟩:=s1.iX (bb:=b9) (off:=o9) ht1 rfl;have et:EK Task _ _ _ b9 (o9+k * 12) [.int .i64 t.op,.int .i64 t.pc,.int .i64 t.s.trace,.int .i64 t.s.id,.int .i64 t.s.start,.int .i64 t.s.fin,.bool t.s.err,fT,.int .i64 t.trace,.int .i64 t.stamp,fQ,.int .i64 t.h] _ _ _ _:=et
   (repeat' first|((with_reducible refine fu ?_);refine EK.st_ (et.ext aG) (by rfl) (by rfl) dB ?_;intro h_ et k_ n_)|refine vsx ?_|(with_reducible refine aZ ?_)|(with_reducible refine bD ?_)|((with_reducible refine aC ?_);first|refine bn (by omega) ?_|refine bq (by omega) (by omega) ?_)|(refine br ?_ ?_<;>first|exact bx|intro _)|((with_reducible refine aC ?_);((first|refine ix ?_|refine ixi ?_|(refine ixg ?_;intro _ _)|(refine aL ?_;intro _ _));first|rintro _ _ _ _ _ ⟨rfl,rfl⟩ _|rintro _ _ _ _ _ ⟨_,rfl,_⟩ _|rintro _ _ _ _ _ ⟨_,_,_,_,rfl,rfl,_,_⟩ _|intro _ _ _ _ _ _ _))|(refine sx ?_;intro _ _)|((with_reducible refine aJ ?_);simp only[g0,g1,g2]))
   obtain⟨x2,F2,e2,s2,m2⟩:=iZ _ {t with pc:=1} rfl rfl et
   have bk2:Bk h_ b [AV.int .i64 x2.c.bZ,AV.int .i64 x2.c.wait,AV.int .i64 x2.c.budget,AV.int .i64 x2.c.cache,AV.int .i64 x2.c.queue,AV.int .i64 x2.c.rate,AV.int .i64 x2.c.aW,AV.int .i64 x2.c.rule.kind,AV.int .i64 x2.c.rule.n,AV.str x2.c.rule.key,AV.str x2.c.rule.text,v0,AV.int .i64 x2.time,AV.bool x2.shut,(AV.sl b1 o1 x.st.length),AV.int .i64 x2.bH,AV.int .i64 x2.b.rate,AV.int .i64 x2.b.aW,AV.int .i64 x2.b.tokens,AV.int .i64 x2.b.at_,v2,AV.int .i64 x2.used,AV.int .i64 x2.w.now,v3,v4,v5,v6,v7,v8,(AV.sl b9 o9 x.tasks.length),v10,AV.int .i64 x2.next] 0:=s2.w.bk
   have hb2:=bk2.1
   clear bk at9 at1
   (repeat' first|(with_reducible refine lW ?_)|refine vsx ?_|(with_reducible refine aZ ?_)|(with_reducible refine bD ?_)|((with_reducible refine aC ?_);first|refine bn (by omega) ?_|refine bq (by omega) (by omega) ?_)|(refine br ?_ ?_<;>first|exact bx|intro _)|((with_reducible refine aC ?_);((first|refine ix ?_|refine ixi ?_|(refine ixg ?_;intro _ _)|(refine aL ?_;intro _ _));first|rintro _ _ _ _ _ ⟨rfl,rfl⟩ _|rintro _ _ _ _ _ ⟨_,rfl,_⟩ _|rintro _ _ _ _ _ ⟨_,_,_,_,rfl,rfl,_,_⟩ _|intro _ _ _ _ _ _ _))|(refine sx ?_;intro _ _)|((with_reducible refine aJ ?_);simp only[g0,g1,g2]))
   refine s2.jY (jv x2) (fun x3 e3 s3=>?_) gZ (by rw[e2,e1];rfl)
   (repeat' first|refine vsw ?_|(refine br ?_ ?_<;>first|exact bx|intro _)|((with_reducible refine aC ?_);((first|refine ix ?_|refine ixi ?_|(refine ixg ?_;intro _ _)|(refine aL ?_;intro _ _));first|rintro _ _ _ _ _ ⟨rfl,rfl⟩ _|rintro _ _ _ _ _ ⟨_,rfl,_⟩ _|rintro _ _ _ _ _ ⟨_,_,_,_,rfl,rfl,_,_⟩ _|intro _ _ _ _ _ _ _))|(refine sx ?_;intro _ _)|((with_reducible refine aJ ?_);simp only[g0,g1,g2]))
   have e:x3=jv {x with st:=jQ x.st t.trace k,tasks:=x.tasks.set k {t with pc:=1}}:=by rw[e3,e2,e1,yj hy]
   rw[e] at s3
   exact⟨rfl,_,rfl,rfl,s3.done⟩
  ·rw[if_pos (by omega)]
   (repeat' first|refine vsw ?_|(with_reducible refine aZ ?_)|(with_reducible refine bD ?_)|((with_reducible refine aC ?_);first|refine bn (by omega) ?_|refine bq (by omega) (by omega) ?_)|(refine br ?_ ?_<;>first|exact bx|intro _)|((with_reducible refine aB iP ?_);refine aQ qp ?_)|((with_reducible refine aC ?_);((first|refine ix ?_|refine ixi ?_|(refine ixg ?_;intro _ _)|(refine aL ?_;intro _ _));first|rintro _ _ _ _ _ ⟨rfl,rfl⟩ _|rintro _ _ _ _ _ ⟨_,rfl,_⟩ _|rintro _ _ _ _ _ ⟨_,_,_,_,rfl,rfl,_,_⟩ _|intro _ _ _ _ _ _ _))|(refine sx ?_;intro _ _)|((with_reducible refine aJ ?_);simp only[g0,g1,g2]))
   all_goals try(exfalso;omega)
   exact⟨rfl,_,rfl,rfl,Kp.jm aG⟩
 ·have e:eZ x k t=if x.bH≠-1 then none else some {x with bH:=k,tasks:=x.tasks.set k {t with pc:=2}}:=by unfold eZ;rw[if_neg (by omega),if_pos hp]
  rw[e]
  by_cases hf:x.bH= -1
  ·rw[if_neg (by omega)]
   (repeat' first|refine vsx ?_|(with_reducible refine aZ ?_)|(with_reducible refine bD ?_)|((with_reducible refine aC ?_);first|refine bn (by omega) ?_|refine bq (by omega) (by omega) ?_)|(refine br ?_ ?_<;>first|exact bx|intro _)|((with_reducible refine aC ?_);((first|refine ix ?_|refine ixi ?_|(refine ixg ?_;intro _ _)|(refine aL ?_;intro _ _));first|rintro _ _ _ _ _ ⟨rfl,rfl⟩ _|rintro _ _ _ _ _ ⟨_,rfl,_⟩ _|rintro _ _ _ _ _ ⟨_,_,_,_,rfl,rfl,_,_⟩ _|intro _ _ _ _ _ _ _))|(refine sx ?_;intro _ _)|((with_reducible refine aJ ?_);simp only[g0,g1,g2]))
   all_goals try(exfalso;omega)
   refine s.jY {x with bH:=(k:Int)} (fun x1 e1 s1=>?_) gZ (by rfl)
   have ht1:x1.tasks[k]? =some t:=by rw[e1];exact ht
   obtain⟨fT,fQ,lg,kZ,nT,et,mq,mo,lH,kF,nS,nP,nR,nU,jR,iZ⟩:=s1.iX (bb:=b9) (off:=o9) ht1 rfl;have et:EK Task _ _ _ b9 (o9+k * 12) [.int .i64 t.op,.int .i64 t.pc,.int .i64 t.s.trace,.int .i64 t.s.id,.int .i64 t.s.start,.int .i64 t.s.fin,.bool t.s.err,fT,.int .i64 t.trace,.int .i64 t.stamp,fQ,.int .i64 t.h] _ _ _ _:=et
   (repeat' first|((with_reducible refine fu ?_);refine EK.st_ (et.ext aG) (by rfl) (by rfl) dB ?_;intro h_ et k_ n_)|refine vsx ?_|(with_reducible refine aZ ?_)|(with_reducible refine bD ?_)|((with_reducible refine aC ?_);first|refine bn (by omega) ?_|refine bq (by omega) (by omega) ?_)|(refine br ?_ ?_<;>first|exact bx|intro _)|((with_reducible refine aC ?_);((first|refine ix ?_|refine ixi ?_|(refine ixg ?_;intro _ _)|(refine aL ?_;intro _ _));first|rintro _ _ _ _ _ ⟨rfl,rfl⟩ _|rintro _ _ _ _ _ ⟨_,rfl,_⟩ _|rintro _ _ _ _ _ ⟨_,_,_,_,rfl,rfl,_,_⟩ _|intro _ _ _ _ _ _ _))|(refine sx ?_;intro _ _)|((with_reducible refine aJ ?_);simp only[g0,g1,g2]))
   obtain⟨x2,F2,e2,s2,m2⟩:=iZ _ {t with pc:=2} rfl rfl et
   have bk2:Bk h_ b [AV.int .i64 x2.c.bZ,AV.int .i64 x2.c.wait,AV.int .i64 x2.c.budget,AV.int .i64 x2.c.cache,AV.int .i64 x2.c.queue,AV.int .i64 x2.c.rate,AV.int .i64 x2.c.aW,AV.int .i64 x2.c.rule.kind,AV.int .i64 x2.c.rule.n,AV.str x2.c.rule.key,AV.str x2.c.rule.text,v0,AV.int .i64 x2.time,AV.bool x2.shut,(AV.sl b1 o1 x.st.length),AV.int .i64 x2.bH,AV.int .i64 x2.b.rate,AV.int .i64 x2.b.aW,AV.int .i64 x2.b.tokens,AV.int .i64 x2.b.at_,v2,AV.int .i64 x2.used,AV.int .i64 x2.w.now,v3,v4,v5,v6,v7,v8,(AV.sl b9 o9 x.tasks.length),v10,AV.int .i64 x2.next] 0:=s2.w.bk
   have hb2:=bk2.1
   clear bk at9
   (repeat' first|(with_reducible refine lW ?_)|refine vsx ?_|(with_reducible refine aZ ?_)|(with_reducible refine bD ?_)|((with_reducible refine aC ?_);first|refine bn (by omega) ?_|refine bq (by omega) (by omega) ?_)|(refine br ?_ ?_<;>first|exact bx|intro _)|((with_reducible refine aC ?_);((first|refine ix ?_|refine ixi ?_|(refine ixg ?_;intro _ _)|(refine aL ?_;intro _ _));first|rintro _ _ _ _ _ ⟨rfl,rfl⟩ _|rintro _ _ _ _ _ ⟨_,rfl,_⟩ _|rintro _ _ _ _ _ ⟨_,_,_,_,rfl,rfl,_,_⟩ _|intro _ _ _ _ _ _ _))|(refine sx ?_;intro _ _)|((with_reducible refine aJ ?_);simp only[g0,g1,g2]))
   refine s2.jY (jv x2) (fun x3 e3 s3=>?_) gZ (by rw[e2,e1];rfl)
   (repeat' first|refine vsw ?_|(refine br ?_ ?_<;>first|exact bx|intro _)|((with_reducible refine aC ?_);((first|refine ix ?_|refine ixi ?_|(refine ixg ?_;intro _ _)|(refine aL ?_;intro _ _));first|rintro _ _ _ _ _ ⟨rfl,rfl⟩ _|rintro _ _ _ _ _ ⟨_,rfl,_⟩ _|rintro _ _ _ _ _ ⟨_,_,_,_,rfl,rfl,_,_⟩ _|intro _ _ _ _ _ _ _))|(refine sx ?_;intro _ _)|((with_reducible refine aJ ?_);simp only[g0,g1,g2]))
   have e:x3=jv {x with bH:=(k:Int),tasks:=x.tasks.set k {t with pc:=2}}:=by rw[e3,e2,e1]
   rw[e] at s3
   exact⟨rfl,_,rfl,rfl,s3.done⟩
  ·rw[if_pos (by omega)]
   (repeat' first|refine vsw ?_|(with_reducible refine aZ ?_)|(with_reducible refine bD ?_)|((with_reducible refine aC ?_);first|refine bn (by omega) ?_|refine bq (by omega) (by omega) ?_)|(refine br ?_ ?_<;>first|exact bx|intro _)|((with_reducible refine aC ?_);((first|refine ix ?_|refine ixi ?_|(refine ixg ?_;intro _ _)|(refine aL ?_;intro _ _));first|rintro _ _ _ _ _ ⟨rfl,rfl⟩ _|rintro _ _ _ _ _ ⟨_,rfl,_⟩ _|rintro _ _ _ _ _ ⟨_,_,_,_,rfl,rfl,_,_⟩ _|intro _ _ _ _ _ _ _))|(refine sx ?_;intro _ _)|((with_reducible refine aJ ?_);simp only[g0,g1,g2]))
   all_goals try(exfalso;omega)
   exact⟨rfl,_,rfl,rfl,Kp.jm aG⟩
 ·have e:eZ x k t=some (jW x k t):=by unfold eZ;rw[if_neg (by omega),if_neg (by omega),if_pos hp]
  rw[e]
  (repeat' first|refine vsx ?_|(with_reducible refine aZ ?_)|(with_reducible refine bD ?_)|((with_reducible refine aC ?_);first|refine bn (by omega) ?_|refine bq (by omega) (by omega) ?_)|(refine br ?_ ?_<;>first|exact bx|intro _)|((with_reducible refine aC ?_);((first|refine ix ?_|refine ixi ?_|(refine ixg ?_;intro _ _)|(refine aL ?_;intro _ _));first|rintro _ _ _ _ _ ⟨rfl,rfl⟩ _|rintro _ _ _ _ _ ⟨_,rfl,_⟩ _|rintro _ _ _ _ _ ⟨_,_,_,_,rfl,rfl,_,_⟩ _|intro _ _ _ _ _ _ _))|(refine sx ?_;intro _ _)|((with_reducible refine aJ ?_);simp only[g0,g1,g2]))
  all_goals try(exfalso;omega)
  refine aT (agG w ht hd h0 h1 hs hc) ?_
  rintro _ h2 ⟨rfl,W⟩
  obtain⟨V2,F2,s2,-⟩:=s.call W
  obtain⟨z,hz,s2⟩:=s2.gen
  obtain⟨v0,v1,v2,v3,v4,v5,v6,v7,v8,v9,v10⟩:=V2
  have bk2:Bk h2 b [AV.int .i64 z.c.bZ,AV.int .i64 z.c.wait,AV.int .i64 z.c.budget,AV.int .i64 z.c.cache,AV.int .i64 z.c.queue,AV.int .i64 z.c.rate,AV.int .i64 z.c.aW,AV.int .i64 z.c.rule.kind,AV.int .i64 z.c.rule.n,AV.str z.c.rule.key,AV.str z.c.rule.text,v0,AV.int .i64 z.time,AV.bool z.shut,v1,AV.int .i64 z.bH,AV.int .i64 z.b.rate,AV.int .i64 z.b.aW,AV.int .i64 z.b.tokens,AV.int .i64 z.b.at_,v2,AV.int .i64 z.used,AV.int .i64 z.w.now,v3,v4,v5,v6,v7,v8,v9,v10,AV.int .i64 z.next] 0:=s2.w.bk
  have hb2:=bk2.1
  (repeat' first|(with_reducible refine lW ?_)|refine vsx ?_|(with_reducible refine aZ ?_)|(with_reducible refine bD ?_)|((with_reducible refine aC ?_);first|refine bn (by omega) ?_|refine bq (by omega) (by omega) ?_)|(refine br ?_ ?_<;>first|exact bx|intro _)|((with_reducible refine aC ?_);((first|refine ix ?_|refine ixi ?_|(refine ixg ?_;intro _ _)|(refine aL ?_;intro _ _));first|rintro _ _ _ _ _ ⟨rfl,rfl⟩ _|rintro _ _ _ _ _ ⟨_,rfl,_⟩ _|rintro _ _ _ _ _ ⟨_,_,_,_,rfl,rfl,_,_⟩ _|intro _ _ _ _ _ _ _))|(refine sx ?_;intro _ _)|((with_reducible refine aJ ?_);simp only[g0,g1,g2]))
  refine s2.jY (jv z) (fun x3 e3 s3=>?_)
  (repeat' first|refine vsw ?_|(refine br ?_ ?_<;>first|exact bx|intro _)|((with_reducible refine aC ?_);((first|refine ix ?_|refine ixi ?_|(refine ixg ?_;intro _ _)|(refine aL ?_;intro _ _));first|rintro _ _ _ _ _ ⟨rfl,rfl⟩ _|rintro _ _ _ _ _ ⟨_,rfl,_⟩ _|rintro _ _ _ _ _ ⟨_,_,_,_,rfl,rfl,_,_⟩ _|intro _ _ _ _ _ _ _))|(refine sx ?_;intro _ _)|((with_reducible refine aJ ?_);simp only[g0,g1,g2]))
  subst e3
  subst hz
  exact⟨rfl,_,rfl,rfl,s3.done⟩
 ·have e:eZ x k t=mg x k t:=by unfold eZ;rw[if_neg (by omega),if_neg (by omega),if_neg (by omega)]
  rw[e]
  obtain⟨y,ys,hyy⟩:∃ y ys,t.hand=y::ys:=by
   cases hq:t.hand with
   |nil=>exact absurd hq (hh hp)
   |cons a l=>exact⟨a,l,rfl⟩
  (repeat' first|refine vsx ?_|(with_reducible refine aZ ?_)|(with_reducible refine bD ?_)|((with_reducible refine aC ?_);first|refine bn (by omega) ?_|refine bq (by omega) (by omega) ?_)|(refine br ?_ ?_<;>first|exact bx|intro _)|((with_reducible refine aC ?_);((first|refine ix ?_|refine ixi ?_|(refine ixg ?_;intro _ _)|(refine aL ?_;intro _ _));first|rintro _ _ _ _ _ ⟨rfl,rfl⟩ _|rintro _ _ _ _ _ ⟨_,rfl,_⟩ _|rintro _ _ _ _ _ ⟨_,_,_,_,rfl,rfl,_,_⟩ _|intro _ _ _ _ _ _ _))|(refine sx ?_;intro _ _)|((with_reducible refine aJ ?_);simp only[g0,g1,g2]))
  all_goals try(exfalso;omega)
  refine aT (aem w ht hd h0 hyy hs) ?_
  intro v2 h2 hst
  cases hL:mg x k t with
  |none=>
   rw[hL] at hst
   obtain⟨rfl,kk⟩:=hst
   (repeat' first|refine vsw ?_|(refine br ?_ ?_<;>first|exact bx|intro _)|((with_reducible refine aC ?_);((first|refine ix ?_|refine ixi ?_|(refine ixg ?_;intro _ _)|(refine aL ?_;intro _ _));first|rintro _ _ _ _ _ ⟨rfl,rfl⟩ _|rintro _ _ _ _ _ ⟨_,rfl,_⟩ _|rintro _ _ _ _ _ ⟨_,_,_,_,rfl,rfl,_,_⟩ _|intro _ _ _ _ _ _ _))|(refine sx ?_;intro _ _)|((with_reducible refine aJ ?_);simp only[g0,g1,g2]))
   exact⟨rfl,_,rfl,rfl,kk⟩
  |some z=>
   rw[hL] at hst
   obtain⟨rfl,W⟩:=hst
   obtain⟨V2,F2,s2,-⟩:=s.call W
   obtain⟨v0,v1,v2,v3,v4,v5,v6,v7,v8,v9,v10⟩:=V2
   have bk2:Bk h2 b [AV.int .i64 z.c.bZ,AV.int .i64 z.c.wait,AV.int .i64 z.c.budget,AV.int .i64 z.c.cache,AV.int .i64 z.c.queue,AV.int .i64 z.c.rate,AV.int .i64 z.c.aW,AV.int .i64 z.c.rule.kind,AV.int .i64 z.c.rule.n,AV.str z.c.rule.key,AV.str z.c.rule.text,v0,AV.int .i64 z.time,AV.bool z.shut,v1,AV.int .i64 z.bH,AV.int .i64 z.b.rate,AV.int .i64 z.b.aW,AV.int .i64 z.b.tokens,AV.int .i64 z.b.at_,v2,AV.int .i64 z.used,AV.int .i64 z.w.now,v3,v4,v5,v6,v7,v8,v9,v10,AV.int .i64 z.next] 0:=s2.w.bk
   have hb2:=bk2.1
   (repeat' first|(with_reducible refine lW ?_)|refine vsx ?_|(with_reducible refine aZ ?_)|(with_reducible refine bD ?_)|((with_reducible refine aC ?_);first|refine bn (by omega) ?_|refine bq (by omega) (by omega) ?_)|(refine br ?_ ?_<;>first|exact bx|intro _)|((with_reducible refine aC ?_);((first|refine ix ?_|refine ixi ?_|(refine ixg ?_;intro _ _)|(refine aL ?_;intro _ _));first|rintro _ _ _ _ _ ⟨rfl,rfl⟩ _|rintro _ _ _ _ _ ⟨_,rfl,_⟩ _|rintro _ _ _ _ _ ⟨_,_,_,_,rfl,rfl,_,_⟩ _|intro _ _ _ _ _ _ _))|(refine sx ?_;intro _ _)|((with_reducible refine aJ ?_);simp only[g0,g1,g2]))
   refine s2.jY (jv z) (fun x3 e3 s3=>?_)
   (repeat' first|refine vsw ?_|(refine br ?_ ?_<;>first|exact bx|intro _)|((with_reducible refine aC ?_);((first|refine ix ?_|refine ixi ?_|(refine ixg ?_;intro _ _)|(refine aL ?_;intro _ _));first|rintro _ _ _ _ _ ⟨rfl,rfl⟩ _|rintro _ _ _ _ _ ⟨_,rfl,_⟩ _|rintro _ _ _ _ _ ⟨_,_,_,_,rfl,rfl,_,_⟩ _|intro _ _ _ _ _ _ _))|(refine sx ?_;intro _ _)|((with_reducible refine aJ ?_);simp only[g0,g1,g2]))
   subst e3
   exact⟨rfl,_,rfl,rfl,s3.done⟩
def FW (x:Wld) (k:Int):Prop:=oQ x∧(3≤k∧k≤4)∧(∃ t,x.tasks[k.toNat]? =some t∧t.op=2)
noncomputable def stepJ (x:Wld) (k:Nat):Option Wld:=match x.tasks[k]? with
 |some t=>(eZ x k t).map jv
 |none=>none
noncomputable def lV (x:Wld) (k:Int):Wld × Bool:=if bp (FW x k)=true then orX x (stepJ x k.toNat) else(x,false)
theorem JU {x:Wld} {k:Nat} {t:Task} (h:FW x k) (ht:x.tasks[k]? =some t):lV x k=orX x ((eZ x k t).map jv):=by
 unfold lV;rw[if_pos (eD h)];unfold stepJ;rw[Int.toNat_natCast,ht]
theorem xJ {x:Wld} {k:Int} (h: ¬ FW x k):lV x k=(x,false):=if_neg (by rw[fU h];decide)
theorem aa8 {h:AH} {x:Wld} {cs:List AV} {F:List Nat} {k:Int} (ok:Cel.ok x) (hs:Sz.sz x≤33554432) (r:Cel.rep h x cs F):cZ Tryz.prog Hw [.agg cs,.int .i64 k] h (sN h (lV x k).1 (lV x k).2):=by
 have hs0:Sz.sz x≤67108864:=by omega
 have hs1:=hs
 have hs:=hs0
 have r0':=r
 obtain⟨v0,v1,v2,v3,v4,v5,v6,v7,v8,v9,v10,F0,F1,F2,F3,F4,F5,F6,F7,F8,F9,F10,rfl,rfl,r0,r1,r2,r3,r4,r5,r6,r7,r8,r9,r10⟩:=r
 have hs:Sz.sz x.c+(x.st.length+szs x.st)+(x.cache.length+szs x.cache)+Sz.sz x.w+(x.due.length+szs x.due)+(x.queue.length+szs x.queue)+(x.out.length+szs x.out)+(x.tasks.length+szs x.tasks)+(x.aH.length+szs x.aH)≤67108864:=hs
 have hl1:=r1.small
 have hl9:=r9.small
 refine ab7 _ _ ?_
 unfold MN
 refine prolog (AY x hs0) r0' ?_
 intro H B V G e nB hB bx bz w
 have bB:Bk H B [AV.int .i64 x.c.bZ,AV.int .i64 x.c.wait,AV.int .i64 x.c.budget,AV.int .i64 x.c.cache,AV.int .i64 x.c.queue,AV.int .i64 x.c.rate,AV.int .i64 x.c.aW,AV.int .i64 x.c.rule.kind,AV.int .i64 x.c.rule.n,AV.str x.c.rule.key,AV.str x.c.rule.text,V.v0,AV.int .i64 x.time,AV.bool x.shut,V.v1,AV.int .i64 x.bH,AV.int .i64 x.b.rate,AV.int .i64 x.b.aW,AV.int .i64 x.b.tokens,AV.int .i64 x.b.at_,V.v2,AV.int .i64 x.used,AV.int .i64 x.w.now,V.v3,V.v4,V.v5,V.v6,V.v7,V.v8,V.v9,V.v10,AV.int .i64 x.next] 0:=w.bk
 by_cases hw:oQ x∧(3≤k∧k≤4)
 ·have h5:=hw.1.2.1
  obtain⟨t,ht,-,-⟩:=aR (show k.toNat < x.tasks.length by omega)
  obtain⟨k',rfl⟩:∃ k':Nat,k=k':=⟨k.toNat,by omega⟩
  simp only[Int.toNat_natCast] at ht
  by_cases hg:t.op=2
  ·rw[JU ⟨hw.1,hw.2,t,ht,hg⟩ ht]
   have hI:=RF.1 hw.1
   obtain⟨d,hd,-,-⟩:=hI.own ht (by omega)
   have htk:=(hI.tasks k' t ht).1.1
   have hT:=task2 hI ht hg
   (repeat' first|refine vs ?_|(refine br ?_ ?_<;>first|exact bx|intro _)|((with_reducible refine aB tJ ?_);(refine aX (II (x:=x) ok hs0 ⟨_,_,_,_,_,_,_,_,_,_,_,_,_,_,_,_,_,_,_,_,_,_,rfl,rfl,ah,ah,ah,ah,ah,ah,ah,ah,ah,ah,ah⟩) ?_ ?_<;>intro hn))|((with_reducible refine aB bP ?_);(refine cK (fV) ?_ ?_<;>intro hb<;>(first|replace hb:=dx hb|replace hb:=dz hb)))|((with_reducible refine aC ?_);((first|refine ix ?_|refine ixi ?_|(refine ixg ?_;intro _ _)|(refine aL ?_;intro _ _));first|rintro _ _ _ _ _ ⟨rfl,rfl⟩ _|rintro _ _ _ _ _ ⟨_,rfl,_⟩ _|rintro _ _ _ _ _ ⟨_,_,_,_,rfl,rfl,_,_⟩ _|intro _ _ _ _ _ _ _))|(refine sx ?_;intro _ _)|((with_reducible refine aJ ?_);simp only[g0,g1,g2]))
   all_goals try(exfalso;first|omega|exact absurd hw.1 (by assumption))
   refine aT (ael (t:=t) (d:=d) w ht hd htk.1 hI.n1 hs1 hI.VA htk.2.1 (fun q hn=>by have:=hT.2.2.1.2.1 q;rw[hn] at this;simp at this)) ?_
   intro v2 h2 hst
   cases hL:(eZ x k' t).map jv with
   |none=>
    rw[hL] at hst
    obtain⟨rfl,kk⟩:=hst
    have nx:h.n ∉ B::G.a:=fun hm=>by
     rcases List.mem_cons.1 hm with q|q
     ·omega
     ·have:=(w.own.1.2 _ q).1;omega
    have bx2:=bR kk bx nx
    (repeat' first|refine vsx ?_|(refine br ?_ ?_<;>first|exact bx|intro _)|((with_reducible refine aC ?_);((first|refine ix ?_|refine ixi ?_|(refine ixg ?_;intro _ _)|(refine aL ?_;intro _ _));first|rintro _ _ _ _ _ ⟨rfl,rfl⟩ _|rintro _ _ _ _ _ ⟨_,rfl,_⟩ _|rintro _ _ _ _ _ ⟨_,_,_,_,rfl,rfl,_,_⟩ _|intro _ _ _ _ _ _ _))|(refine sx ?_;intro _ _)|((with_reducible refine aJ ?_);simp only[g0,g1,g2]))
    exact vJ w bz rfl e (by omega) kk (AY x hs0) r0'
   |some y=>
    rw[hL] at hst
    obtain⟨rfl,W⟩:=hst
    (repeat' first|refine vsx ?_|(refine br ?_ ?_<;>first|exact bx|intro _)|((with_reducible refine aC ?_);((first|refine ix ?_|refine ixi ?_|(refine ixg ?_;intro _ _)|(refine aL ?_;intro _ _));first|rintro _ _ _ _ _ ⟨rfl,rfl⟩ _|rintro _ _ _ _ _ ⟨_,rfl,_⟩ _|rintro _ _ _ _ _ ⟨_,_,_,_,rfl,rfl,_,_⟩ _|intro _ _ _ _ _ _ _))|(refine sx ?_;intro _ _)|((with_reducible refine aJ ?_);simp only[g0,g1,g2]))
    exact amo w bz rfl e (by omega) W
  ·rw[xJ fun c=>hg (by obtain⟨t',ht',q⟩:=c.2.2;simp only[Int.toNat_natCast] at ht';rw[ht] at ht';cases ht';exact q)]
   (repeat' first|refine vs ?_|(refine br ?_ ?_<;>first|exact bx|intro _)|((with_reducible refine aB tJ ?_);(refine aX (II (x:=x) ok hs0 ⟨_,_,_,_,_,_,_,_,_,_,_,_,_,_,_,_,_,_,_,_,_,_,rfl,rfl,ah,ah,ah,ah,ah,ah,ah,ah,ah,ah,ah⟩) ?_ ?_<;>intro hn))|((with_reducible refine aB bP ?_);(refine cK (fV) ?_ ?_<;>intro hb<;>(first|replace hb:=dx hb|replace hb:=dz hb)))|((with_reducible refine aC ?_);((first|refine ix ?_|refine ixi ?_|(refine ixg ?_;intro _ _)|(refine aL ?_;intro _ _));first|rintro _ _ _ _ _ ⟨rfl,rfl⟩ _|rintro _ _ _ _ _ ⟨_,rfl,_⟩ _|rintro _ _ _ _ _ ⟨_,_,_,_,rfl,rfl,_,_⟩ _|intro _ _ _ _ _ _ _))|(refine sx ?_;intro _ _)|((with_reducible refine aJ ?_);simp only[g0,g1,g2]))
   all_goals first
    |(exfalso;first|omega|exact absurd hw.1 (by assumption))
    |exact vJ w bz rfl e (by omega) (Kp.refl _ _) (AY x hs0) r0'
 ·rw[xJ fun c=>hw ⟨c.1,c.2.1⟩]
  (repeat' first|refine vs ?_|(refine br ?_ ?_<;>first|exact bx|intro _)|((with_reducible refine aB tJ ?_);(refine aX (II (x:=x) ok hs0 ⟨_,_,_,_,_,_,_,_,_,_,_,_,_,_,_,_,_,_,_,_,_,_,rfl,rfl,ah,ah,ah,ah,ah,ah,ah,ah,ah,ah,ah⟩) ?_ ?_<;>intro hn))|((with_reducible refine aB bP ?_);(refine cK (fV) ?_ ?_<;>intro hb<;>(first|replace hb:=dx hb|replace hb:=dz hb)))|((with_reducible refine aC ?_);((first|refine ix ?_|refine ixi ?_|(refine ixg ?_;intro _ _)|(refine aL ?_;intro _ _));first|rintro _ _ _ _ _ ⟨rfl,rfl⟩ _|rintro _ _ _ _ _ ⟨_,rfl,_⟩ _|rintro _ _ _ _ _ ⟨_,_,_,_,rfl,rfl,_,_⟩ _|intro _ _ _ _ _ _ _))|(refine sx ?_;intro _ _)|((with_reducible refine aJ ?_);simp only[g0,g1,g2]))
  all_goals first
   |exact absurd ⟨by assumption,by omega⟩ hw
   |exact vJ w bz rfl e (by omega) (Kp.refl _ _) (AY x hs0) r0'
end Go.Proofs.YtekfdoknfcedpaaGreat
