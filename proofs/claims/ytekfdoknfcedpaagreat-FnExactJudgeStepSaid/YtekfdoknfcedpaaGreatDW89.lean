import Derived.Test.YtekfdoknfcedpaaGreatDW80
set_option linter.unusedSimpArgs false
set_option linter.unusedVariables false
set_option maxHeartbeats 2000000
namespace Go.Proofs.YtekfdoknfcedpaaGreat
open Go Go.Ab
attribute[local irreducible] dK
section
def M6 (x0 x1:AV):Prog:=Lf 14 x0 fun a=>Ln 0 a fun a=>.loop [.int .i64 0] (fun b=>Bn .lss (g b 0) a fun a=>.ite a (Lf 14 x0 fun a=>Ix 2 a (g b 0) fun a=>Lg 0 a fun a=>Bn .eql a x1 fun a=>.scope (.ite a (Lf 14 x0 fun a=>Ix 2 a (g b 0) fun a=>.op (.fad 0 a) fun a=>.op (.st 1 a (.int .i64 (-1))) fun _=>.leaf 0 []) (.leaf 0 [])) (fun _=>Bn .add (g b 0) (.int .i64 1) fun a=>.leaf 0 [a]) fun a b=>aA a 1 (.leaf 1 b) .bad) (.leaf 2 [g b 0])) fun a b=>aA a 1 (.leaf 1 b) (aA a 2 (.fin []) .bad)
theorem acK (x0 x1:AV):CC Tryz.prog Ic [x0,x1] (M6 x0 x1):=cc Tryz.func133 [0,1,9,10] (fun _=>[])
def Mj (x0 x1 x2:AV):Prog:=.op (.dL x0) fun a=>.op (.fad 14 a) fun a=>.op (.ld1 a) fun b=>Lf 14 x0 fun c=>Ln 0 c fun c=>Cl jF [x2,c] fun c=>.chk (.ld1 a) b (Ix 2 b c fun a=>Lf 0 a fun b=>.op (.bin 0 .neq b (.int .i64 (-1))) fun b=>.ite b (.fin [.val (.bool false)]) (Sf 0 a x1 fun _=>.fin [.val (.bool true)]))
theorem aa0 (x0 x1 x2:AV):CC Tryz.prog Hf [x0,x1,x2] (Mj x0 x1 x2):=cc Tryz.func45 [] (fun r=>if r=1 then[(0,[]),(1,[]),(2,[]),(3,[]),(4,[]),(5,[]),(6,[]),(7,[]),(8,[]),(9,[]),(10,[3]),(11,[]),(12,[])] else[])
def Q0 (x0 x1:AV):Prog:=Lf 30 x0 fun a=>Lf 29 x0 fun b=>Ix 12 b x1 fun b=>Lg 11 b fun b=>Lf 12 x0 fun c=>Ix 20 a b fun a=>Sg 19 a c fun _=>Lf 29 x0 fun a=>.op (.build gu []) fun b=>Ix 12 a x1 fun a=>.op (.st 12 a b) fun _=>.fin []
theorem ah5 (x0 x1:AV):CC Tryz.prog Cw [x0,x1] (Q0 x0 x1):=cc Tryz.func134 [] (fun r=>if r=0 then[(0,[]),(1,[]),(2,[]),(3,[]),(4,[]),(5,[]),(6,[]),(7,[]),(8,[]),(9,[]),(10,[]),(11,[]),(12,[]),(13,[]),(14,[]),(15,[]),(16,[]),(17,[]),(18,[])] else[])
end
def vT (n m:Nat) (h:AH) (b:Nat) (F:WF) (y:Wld) (V:WV) (h':AH):Prop:=∃ V' F',PW n h' b y V' F'∧Mv m h b F h' F'∧V'.v9=V.v9∧V'.v10=V.v10
section
variable{n m b:Nat} {h0 h h':AH} {F0 F:WF} {x y:Wld} {V V':WV}
theorem FU (s:WS n m h0 b F0 h x V F) (e9:V.v9=V'.v9) (e10:V.v10=V'.v10):vT n m h0 b F0 x V' h:=⟨V,F,s.w,s.mv,e9,e10⟩
theorem FX (s:WS n m h0 b F0 h x V F) (W:vT n h.n h b F y V h'):∃ V' F',WS n m h0 b F0 h' y V' F'∧V'.v9=V.v9∧V'.v10=V.v10∧Kp h h' (b::F.a)∧h.n≤h'.n∧∀ c∈F'.a,c∈F.a∨h.n≤c:=by
 obtain⟨V',F',w',mv',e9,e10⟩:=W
 have k:=mv'.kp
 exact⟨V',F',⟨w',s.mv.trans (mv'.low s.hm),Nat.le_trans s.hm k.1⟩,e9,e10,k,k.1,mv'.fr⟩
end
def jZ (k:Int) (s:aU):aU:=if s.held=k then{s with held:=-1} else s
def qc (k:Int) (st:List aU):List aU:=st.map (jZ k)
def lp (k:Int) (i:Nat) (st:List aU):List aU:=(st.take i).map (jZ k)++st.drop i
section
variable{k:Int} {i:Nat} {l:List aU} {a:aU}
theorem anx:lp k 0 l=l:=by simp[lp]
theorem al7 (h:l.length≤i):lp k i l=qc k l:=by unfold lp qc;rw[List.take_of_length_le h,List.drop_eq_nil_of_le h,List.append_nil]
theorem Vs (h:l[i]? =some a):(lp k i l)[i]? =some a:=by
 have hi:=(List.getElem?_eq_some_iff.1 h).1
 unfold lp
 rw[List.getElem?_append_right (by simp;omega),List.getElem?_drop]
 have:i+(i - (List.map (jZ k) (List.take i l)).length)=i:=by simp;omega
 rw[this];exact h
theorem Vr (h:l[i]? =some a):(lp k i l).set i (jZ k a)=lp k (i+1) l:=by
 have hi:=(List.getElem?_eq_some_iff.1 h).1
 obtain⟨x,hx,hd,htk⟩:=aR hi
 rw[h] at hx;cases hx
 unfold lp
 rw[List.set_append_right _ _ (by simp;omega),htk,hd]
 have:i - (List.map (jZ k) (List.take i l)).length=0:=by simp;omega
 rw[this];simp
theorem alg (h:l[i]? =some a) (hs:jZ k a=a):lp k (i+1) l=lp k i l:=by
 rw[←Vr h,hs]
 have hi:=(List.getElem?_eq_some_iff.1 (Vs (k:=k) h))
 obtain⟨h1,h2⟩:=hi
 conv=>lhs;rw[←h2]
 exact List.set_getElem_self h1
end
theorem aby {h:AH} {n b k:Nat} {x:Wld} {V:WV} {F:WF} (w:PW n h b x V F) (h1:1≤(x.st.length:Int)):cZ Tryz.prog Ic [.ptr b 0,.int .i64 (k:Int)] h fun v h'=>v= .tup []∧vT n h.n h b F {x with st:=qc k x.st} V h':=by
 obtain⟨v0,v1,v2,v3,v4,v5,v6,v7,v8,v9,v10⟩:=V
 have s:=w.ws
 obtain⟨y0,hy0⟩:∃ y0,x.st[0]? =some y0:=⟨x.st[0]'(by omega),List.getElem?_eq_getElem _⟩
 obtain⟨b1,o1,e1⟩:=w.r1.sl hy0;have e1:v1= .sl b1 o1 x.st.length:=e1;subst e1;have l1:b1 < _:=jO w.r1
 have bk:Bk h b [AV.int .i64 x.c.bZ,AV.int .i64 x.c.wait,AV.int .i64 x.c.budget,AV.int .i64 x.c.cache,AV.int .i64 x.c.queue,AV.int .i64 x.c.rate,AV.int .i64 x.c.aW,AV.int .i64 x.c.rule.kind,AV.int .i64 x.c.rule.n,AV.str x.c.rule.key,AV.str x.c.rule.text,v0,AV.int .i64 x.time,AV.bool x.shut,(AV.sl b1 o1 x.st.length),AV.int .i64 x.bH,AV.int .i64 x.b.rate,AV.int .i64 x.b.aW,AV.int .i64 x.b.tokens,AV.int .i64 x.b.at_,v2,AV.int .i64 x.used,AV.int .i64 x.w.now,v3,v4,v5,v6,v7,v8,v9,v10,AV.int .i64 x.next] 0:=w.bk
 have hsm:=w.r1.small
 refine acK _ _ ?_
 unfold M6
 (repeat' first|refine vsx ?_|(with_reducible refine aZ ?_)|(with_reducible refine bD ?_)|fail)
 refine aY x.st.length (fun i vs h2=>vs=[.int .i64 (i:Int)]∧∃ x2 F2,x2={x with st:=lp k i x.st}∧WS n h.n h b F h2 x2 ⟨v0,AV.sl b1 o1 x.st.length,v2,v3,v4,v5,v6,v7,v8,v9,v10⟩ F2) ⟨rfl,x,F,by rw[anx],s⟩ ?_
 rintro i vs h2 hi ⟨rfl,x2,F2,e2,s2⟩
 simp only[g0]
 have bk2:Bk h2 b [AV.int .i64 x2.c.bZ,AV.int .i64 x2.c.wait,AV.int .i64 x2.c.budget,AV.int .i64 x2.c.cache,AV.int .i64 x2.c.queue,AV.int .i64 x2.c.rate,AV.int .i64 x2.c.aW,AV.int .i64 x2.c.rule.kind,AV.int .i64 x2.c.rule.n,AV.str x2.c.rule.key,AV.str x2.c.rule.text,v0,AV.int .i64 x2.time,AV.bool x2.shut,(AV.sl b1 o1 x.st.length),AV.int .i64 x2.bH,AV.int .i64 x2.b.rate,AV.int .i64 x2.b.aW,AV.int .i64 x2.b.tokens,AV.int .i64 x2.b.at_,v2,AV.int .i64 x2.used,AV.int .i64 x2.w.now,v3,v4,v5,v6,v7,v8,v9,v10,AV.int .i64 x2.next] 0:=s2.w.bk
 refine br (fun hlt=>?_) (fun hge=>?_)
 ·obtain⟨y,hy,-,-⟩:=aR (show i < x.st.length by omega)
  have hy2:x2.st[i]? =some y:=by rw[e2];exact Vs hy
  obtain⟨zk,Wm,XA,ey,Wi,XB,Xx,Xz,Xw,Xy,XC,Wj,zi⟩:=s2.FC (bb:=b1) (off:=o1) hy2 rfl;have ey:EK aU _ _ _ b1 (o1+i * 2) [.int .i64 y.held,zk] _ _ _ _:=ey
  have at1:=ey.at_
  by_cases hk:y.held=(k:Int)
  ·have hg:jZ k y={y with held:=-1}:=by unfold jZ;rw[if_pos hk]
   (repeat' first|((with_reducible refine fu ?_);refine EK.st_ (ey.ext aG) (by rfl) (by rfl) dB ?_;intro h_ ey k_ n_)|refine vsx ?_|(with_reducible refine aZ ?_)|((with_reducible refine aC ?_);refine bn (by omega) ?_)|(refine br ?_ ?_<;>first|exact bo|intro _)|fail)
   obtain⟨x3,F3,e3,s3,m3⟩:=zi _ {y with held:=-1} rfl ey
   refine⟨by omega,rfl,x3,F3,?_,s3⟩
   rw[e3,e2,←Vr hy,hg]
  ·have hg:jZ k y=y:=by unfold jZ;rw[if_neg hk]
   (repeat' first|refine vsx ?_|(with_reducible refine aZ ?_)|((with_reducible refine aC ?_);refine bn (by omega) ?_)|(refine br ?_ ?_<;>first|exact bo|intro _)|fail)
   exact⟨by omega,rfl,x2,F2,by rw[e2,alg hy hg],s2⟩
 ·have:i=x.st.length:=by omega
  subst this
  rw[al7 (Nat.le_refl _)] at e2
  subst e2
  (repeat' first|refine vsw ?_|fail)
  exact⟨rfl,_,rfl,rfl,FU s2 rfl rfl⟩
theorem aaA {h:AH} {n b k:Nat} {x:Wld} {V:WV} {F:WF} {tr:Int} (w:PW n h b x V F) (h1:1≤(x.st.length:Int)):cZ Tryz.prog Hf [.ptr b 0,.int .i64 (k:Int),.int .i64 tr] h fun v h'=>(jM x tr= -1→v= .bool true∧vT n h.n h b F {x with st:=jQ x.st tr k} V h')∧(jM x tr≠-1→v= .bool false∧Ext h h'):=by
 obtain⟨v0,v1,v2,v3,v4,v5,v6,v7,v8,v9,v10⟩:=V
 have s:=w.ws
 obtain⟨y,hy⟩:=CQ h1 tr
 have hsb:=kL (t:=tr) h1
 have hh:jM x tr=y.held:=TQ hy
 obtain⟨b1,o1,e1⟩:=w.r1.sl hy;have e1:v1= .sl b1 o1 x.st.length:=e1;subst e1;have l1:b1 < _:=jO w.r1
 have bk:Bk h b [AV.int .i64 x.c.bZ,AV.int .i64 x.c.wait,AV.int .i64 x.c.budget,AV.int .i64 x.c.cache,AV.int .i64 x.c.queue,AV.int .i64 x.c.rate,AV.int .i64 x.c.aW,AV.int .i64 x.c.rule.kind,AV.int .i64 x.c.rule.n,AV.str x.c.rule.key,AV.str x.c.rule.text,v0,AV.int .i64 x.time,AV.bool x.shut,(AV.sl b1 o1 x.st.length),AV.int .i64 x.bH,AV.int .i64 x.b.rate,AV.int .i64 x.b.aW,AV.int .i64 x.b.tokens,AV.int .i64 x.b.at_,v2,AV.int .i64 x.used,AV.int .i64 x.w.now,v3,v4,v5,v6,v7,v8,v9,v10,AV.int .i64 x.next] 0:=w.bk
 obtain⟨zk,Wm,XA,ey,Wi,XB,Xx,Xz,Xw,Xy,XC,Wj,zi⟩:=s.FC (bb:=b1) (off:=o1) hy rfl;have ey:EK aU _ _ _ b1 (o1+(stripe tr x.st.length).toNat * 2) [.int .i64 y.held,zk] _ _ _ _:=ey
 have at1:=ey.at_
 refine aa0 _ _ _ ?_
 unfold Mj
 by_cases hf:y.held= -1
 ·(repeat' first|((with_reducible refine fu ?_);refine EK.st_ (ey.ext aG) (by rfl) (by rfl) dB ?_;intro h_ ey k_ n_)|refine vsx ?_|(with_reducible refine aZ ?_)|(with_reducible refine bD ?_)|((with_reducible refine aC ?_);refine bq (by omega) (by omega) ?_)|(refine br ?_ ?_<;>first|exact bo|intro _)|((with_reducible refine aB jF ?_);refine aQ tC ?_)|fail)
  obtain⟨x1,F1,e1,s1,m1⟩:=zi _ {y with held:=k} rfl ey
  (repeat' first|refine vsw ?_|fail)
  rw[←yj hy] at e1
  subst e1
  exact⟨rfl,_,rfl,fun _=>⟨rfl,FU s1 rfl rfl⟩,fun q=>absurd (by omega) q⟩
 ·(repeat' first|refine vsw ?_|(with_reducible refine aZ ?_)|(with_reducible refine bD ?_)|((with_reducible refine aC ?_);refine bq (by omega) (by omega) ?_)|(refine br ?_ ?_<;>first|exact bo|intro _)|((with_reducible refine aB jF ?_);refine aQ tC ?_)|fail)
  exact⟨rfl,_,rfl,fun q=>absurd (by omega) hf,fun _=>⟨rfl,aG⟩⟩
def sj (x:Wld) (k:Nat) (t:Task):Wld:={x with aH:=upd x.aH t.h.toNat (fun d=>{d with res:=x.time}),tasks:=x.tasks.set k kr}
theorem Qe {h:AH} {n b k:Nat} {x:Wld} {V:WV} {F:WF} {t:Task} {d:bN} (w:PW n h b x V F) (ht:x.tasks[k]? =some t) (hd:x.aH[t.h.toNat]? =some d) (h0:0≤t.h):cZ Tryz.prog Cw [.ptr b 0,.int .i64 (k:Int)] h fun v h'=>v= .tup []∧sK n h.n h b F (sj x k t) h':=by
 obtain⟨v0,v1,v2,v3,v4,v5,v6,v7,v8,v9,v10⟩:=V
 have hk:k < x.tasks.length:=(List.getElem?_eq_some_iff.1 ht).1
 have hdl:t.h.toNat < x.aH.length:=(List.getElem?_eq_some_iff.1 hd).1
 obtain⟨b9,o9,e9⟩:=w.r9.sl ht;have e9:v9= .sl b9 o9 x.tasks.length:=e9;subst e9;have l9:b9 < _:=jO w.r9;obtain⟨b10,o10,e10⟩:=w.r10.sl hd;have e10:v10= .sl b10 o10 x.aH.length:=e10;subst e10;have l10:b10 < _:=jO w.r10
 have bk:Bk h b [AV.int .i64 x.c.bZ,AV.int .i64 x.c.wait,AV.int .i64 x.c.budget,AV.int .i64 x.c.cache,AV.int .i64 x.c.queue,AV.int .i64 x.c.rate,AV.int .i64 x.c.aW,AV.int .i64 x.c.rule.kind,AV.int .i64 x.c.rule.n,AV.str x.c.rule.key,AV.str x.c.rule.text,v0,AV.int .i64 x.time,AV.bool x.shut,v1,AV.int .i64 x.bH,AV.int .i64 x.b.rate,AV.int .i64 x.b.aW,AV.int .i64 x.b.tokens,AV.int .i64 x.b.at_,v2,AV.int .i64 x.used,AV.int .i64 x.w.now,v3,v4,v5,v6,v7,v8,(AV.sl b9 o9 x.tasks.length),(AV.sl b10 o10 x.aH.length),AV.int .i64 x.next] 0:=w.bk
 have s:=w.ws
 obtain⟨iN,iM,FT,FR,Gq,ek,FQ,FP,Gr,Gm,Gp,Gl,Gn,Gt,vR,su⟩:=s.iX (bb:=b9) (off:=o9) ht rfl;have ek:EK Task _ _ _ b9 (o9+k * 12) [.int .i64 t.op,.int .i64 t.pc,.int .i64 t.s.trace,.int .i64 t.s.id,.int .i64 t.s.start,.int .i64 t.s.fin,.bool t.s.err,iN,.int .i64 t.trace,.int .i64 t.stamp,iM,.int .i64 t.h] _ _ _ _:=ek
 have at9:=ek.at_
 obtain⟨jd,rP,sG,ed,rM,sH,sD,qh,sw,sF,sI,rO,jc⟩:=s.lX (bb:=b10) (off:=o10) hd rfl;have ed:EK bN _ _ _ b10 (o10+t.h.toNat * 20) [.int .i64 d.op,.int .i64 d.task,.int .i64 d.s.trace,.int .i64 d.s.id,.int .i64 d.s.start,.int .i64 d.s.fin,.bool d.s.err,jd,.int .i64 d.trace,.int .i64 d.stamp,.int .i64 d.code,.bool d.keep,.bool d.void,.int .i64 d.took,.int .i64 d.n,.int .i64 d.forgot,.int .i64 d.now,.int .i64 d.inv,.int .i64 d.lin,.int .i64 d.res] _ _ _ _:=ed
 refine ah5 _ _ ?_
 unfold Q0
 (repeat' first|((with_reducible refine fu ?_);refine EK.st_ (ed.ext aG) (by rfl) (by rfl) dB ?_;intro h_ ed k_ n_)|refine vsx ?_|(with_reducible refine aZ ?_)|((with_reducible refine aC ?_);first|refine bn (by omega) ?_|refine bq (by omega) (by omega) ?_)|fail)
 obtain⟨x1,F1,e1,s1,m1⟩:=jc _ {d with res:=x.time} rfl ed
 have ht1:x1.tasks[k]? =some t:=by rw[e1];exact ht
 obtain⟨fT,fQ,lg,kZ,nT,et,mq,mo,lH,kF,nS,nP,nR,nU,jR,iZ⟩:=s1.iX (bb:=b9) (off:=o9) ht1 rfl;have et:EK Task _ _ _ b9 (o9+k * 12) [.int .i64 t.op,.int .i64 t.pc,.int .i64 t.s.trace,.int .i64 t.s.id,.int .i64 t.s.start,.int .i64 t.s.fin,.bool t.s.err,fT,.int .i64 t.trace,.int .i64 t.stamp,fQ,.int .i64 t.h] _ _ _ _:=et
 refine EK.st0 et (by rfl) (by rfl) dB ?_
 intro h4 et k4 n4
 obtain⟨x4,F4,e4,s4,m4⟩:=jR h4 kr .aF .aF [] [] et au.aF au.aF Own.nil (by simp)
 (repeat' first|refine vsw ?_|(refine br ?_ ?_<;>first|exact bx|intro _)|((with_reducible refine aC ?_);((first|refine ix ?_|refine ixi ?_|(refine ixg ?_;intro _ _)|(refine aL ?_;intro _ _));first|rintro _ _ _ _ _ ⟨rfl,rfl⟩ _|rintro _ _ _ _ _ ⟨_,rfl,_⟩ _|rintro _ _ _ _ _ ⟨_,_,_,_,rfl,rfl,_,_⟩ _|intro _ _ _ _ _ _ _))|(refine sx ?_;intro _ _)|((with_reducible refine aJ ?_);simp only[g0,g1,g2]))
 have e:x4=sj x k t:=by rw[e4,e1];unfold sj;rw[kX hd]
 rw[e] at s4
 exact⟨rfl,_,rfl,rfl,s4.done⟩
end Go.Proofs.YtekfdoknfcedpaaGreat
