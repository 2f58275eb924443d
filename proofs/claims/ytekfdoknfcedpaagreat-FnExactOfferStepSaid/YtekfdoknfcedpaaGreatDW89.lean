import Derived.Test.YtekfdoknfcedpaaGreatDW80
set_option linter.unusedSimpArgs false
set_option linter.unusedVariables false
set_option maxHeartbeats 2000000
namespace Go.Proofs.YtekfdoknfcedpaaGreat
open Go Go.Ab
attribute[local irreducible] dI
section
def NT (x0 x1:AV):Prog:=Lf 14 x0 fun a=>Ln 0 a fun a=>.loop [.int .i64 0] (fun b=>Bn .lss (g b 0) a fun a=>.ite a (Lf 14 x0 fun a=>Ix 2 a (g b 0) fun a=>Lg 0 a fun a=>Bn .eql a x1 fun a=>.scope (.ite a (Lf 14 x0 fun a=>Ix 2 a (g b 0) fun a=>.op (.fad 0 a) fun a=>.op (.st 1 a (.int .i64 (-1))) fun _=>.leaf 0 []) (.leaf 0 [])) (fun _=>Bn .add (g b 0) (.int .i64 1) fun a=>.leaf 0 [a]) fun a b=>ak a 1 (.leaf 1 b) .bad) (.leaf 2 [g b 0])) fun a b=>ak a 1 (.leaf 1 b) (ak a 2 (.fin []) .bad)
theorem acO (x0 x1:AV):CC Tryz.prog yI [x0,x1] (NT x0 x1):=cc Tryz.func133 [0,1,9,10] (fun _=>[])
def M9 (x0 x1 x2:AV):Prog:=.op (.bO x0) fun a=>.op (.fad 14 a) fun a=>.op (.ld1 a) fun b=>Lf 14 x0 fun c=>Ln 0 c fun c=>Cl iY [x2,c] fun c=>.chk (.ld1 a) b (Ix 2 b c fun a=>Lf 0 a fun b=>.op (.bin 0 .neq b (.int .i64 (-1))) fun b=>.ite b (.fin [.val (.bool false)]) (Sf 0 a x1 fun _=>.fin [.val (.bool true)]))
theorem aa3 (x0 x1 x2:AV):CC Tryz.prog Bz [x0,x1,x2] (M9 x0 x1 x2):=cc Tryz.func45 [] (fun r=>if r=1 then[(0,[]),(1,[]),(2,[]),(3,[]),(4,[]),(5,[]),(6,[]),(7,[]),(8,[]),(9,[]),(10,[3]),(11,[]),(12,[])] else[])
def OT (x0 x1 x2 x3:AV):Prog:=Lf 30 x0 fun a=>Lf 29 x0 fun b=>Ix 12 b x1 fun b=>Lg 11 b fun b=>Ix 20 a b fun a=>Lf 12 x0 fun b=>Lf 12 x0 fun c=>.op (.bO x0) fun d=>.op (.fad 22 d) fun d=>Lg 0 d fun d=>Sf 10 a x2 fun _=>Sf 9 a x3 fun _=>Sf 18 a b fun _=>Sf 19 a c fun _=>Sf 16 a d fun _=>Cl yI [x0,x1] fun _=>Lf 29 x0 fun a=>.op (.build gX []) fun b=>Ix 12 a x1 fun a=>.op (.st 12 a b) fun _=>.fin []
theorem aek (x0 x1 x2 x3:AV):CC Tryz.prog vH [x0,x1,x2,x3] (OT x0 x1 x2 x3):=cc Tryz.func154 [] (fun r=>if r=0 then[(0,[]),(1,[]),(2,[]),(3,[]),(4,[]),(5,[]),(6,[]),(7,[]),(8,[]),(9,[]),(10,[]),(11,[]),(12,[]),(13,[])] else if r=1 then[(0,[]),(1,[]),(2,[]),(3,[]),(4,[]),(5,[]),(6,[]),(7,[]),(8,[]),(9,[]),(10,[]),(11,[]),(12,[]),(13,[]),(14,[]),(15,[]),(16,[]),(17,[]),(18,[]),(19,[]),(20,[]),(21,[]),(22,[]),(23,[]),(24,[]),(25,[]),(26,[]),(27,[]),(28,[]),(29,[]),(30,[]),(31,[]),(32,[]),(33,[]),(34,[])] else[])
end
def uO (n m:Nat) (h:AH) (b:Nat) (F:WF) (y:Wld) (V:WV) (h':AH):Prop:=∃ V' F',PW n h' b y V' F'∧Mv m h b F h' F'∧V'.v9=V.v9∧V'.v10=V.v10
section
variable{n m b:Nat} {h0 h h':AH} {F0 F:WF} {x y:Wld} {V V':WV}
theorem LJ (s:WS n m h0 b F0 h x V F) (e9:V.v9=V'.v9) (e10:V.v10=V'.v10):uO n m h0 b F0 x V' h:=⟨V,F,s.w,s.mv,e9,e10⟩
theorem uO.went (W:uO n m h b F y V h'):mZ n m h b F y h':=let⟨V',F',w,mv,_⟩:=W;⟨V',F',w,mv⟩
theorem rQ (s:WS n m h0 b F0 h x V F) (W:uO n h.n h b F y V h'):∃ V' F',WS n m h0 b F0 h' y V' F'∧V'.v9=V.v9∧V'.v10=V.v10∧Kp h h' (b::F.a)∧h.n≤h'.n∧∀ c∈F'.a,c∈F.a∨h.n≤c:=by
 obtain⟨V',F',w',mv',e9,e10⟩:=W
 have k:=mv'.kp
 exact⟨V',F',⟨w',s.mv.trans (mv'.low s.hm),Nat.le_trans s.hm k.1⟩,e9,e10,k,k.1,mv'.fr⟩
end
def kY (k:Int) (s:aM):aM:=if s.held=k then{s with held:=-1} else s
def nY (k:Int) (st:List aM):List aM:=st.map (kY k)
def lp (k:Int) (i:Nat) (st:List aM):List aM:=(st.take i).map (kY k)++st.drop i
section
variable{k:Int} {i:Nat} {l:List aM} {a:aM}
theorem anp:lp k 0 l=l:=by simp[lp]
theorem al2 (h:l.length≤i):lp k i l=nY k l:=by unfold lp nY;rw[List.take_of_length_le h,List.drop_eq_nil_of_le h,List.append_nil]
theorem VT (h:l[i]? =some a):(lp k i l)[i]? =some a:=by
 have hi:=(List.getElem?_eq_some_iff.1 h).1
 unfold lp
 rw[List.getElem?_append_right (by simp;omega),List.getElem?_drop]
 have:i+(i - (List.map (kY k) (List.take i l)).length)=i:=by simp;omega
 rw[this];exact h
theorem VR (h:l[i]? =some a):(lp k i l).set i (kY k a)=lp k (i+1) l:=by
 have hi:=(List.getElem?_eq_some_iff.1 h).1
 obtain⟨x,hx,hd,htk⟩:=aQ hi
 rw[h] at hx;cases hx
 unfold lp
 rw[List.set_append_right _ _ (by simp;omega),htk,hd]
 have:i - (List.map (kY k) (List.take i l)).length=0:=by simp;omega
 rw[this];simp
theorem ak6 (h:l[i]? =some a) (hs:kY k a=a):lp k (i+1) l=lp k i l:=by
 rw[←VR h,hs]
 have hi:=(List.getElem?_eq_some_iff.1 (VT (k:=k) h))
 obtain⟨h1,h2⟩:=hi
 conv=>lhs;rw[←h2]
 exact List.set_getElem_self h1
end
theorem vv {h:AH} {n b k:Nat} {x:Wld} {V:WV} {F:WF} (w:PW n h b x V F) (h1:1≤(x.st.length:Int)):bE Tryz.prog yI [.ptr b 0,.int .i64 (k:Int)] h fun v h'=>v= .tup []∧uO n h.n h b F {x with st:=nY k x.st} V h':=by
 obtain⟨v0,v1,v2,v3,v4,v5,v6,v7,v8,v9,v10⟩:=V
 have s:=w.ws
 obtain⟨y0,hy0⟩:∃ y0,x.st[0]? =some y0:=⟨x.st[0]'(by omega),List.getElem?_eq_getElem _⟩
 obtain⟨b1,o1,e1⟩:=w.r1.sl hy0;have e1:v1= .sl b1 o1 x.st.length:=e1;subst e1;have l1:b1 < _:=fO w.r1
 have bk:Bk h b [AV.int .i64 x.c.cB,AV.int .i64 x.c.wait,AV.int .i64 x.c.budget,AV.int .i64 x.c.cache,AV.int .i64 x.c.queue,AV.int .i64 x.c.rate,AV.int .i64 x.c.aV,AV.int .i64 x.c.rule.kind,AV.int .i64 x.c.rule.n,AV.str x.c.rule.key,AV.str x.c.rule.text,v0,AV.int .i64 x.time,AV.bool x.shut,(AV.sl b1 o1 x.st.length),AV.int .i64 x.bQ,AV.int .i64 x.b.rate,AV.int .i64 x.b.aV,AV.int .i64 x.b.tokens,AV.int .i64 x.b.at_,v2,AV.int .i64 x.used,AV.int .i64 x.w.now,v3,v4,v5,v6,v7,v8,v9,v10,AV.int .i64 x.next] 0:=w.bk
 have hsm:=w.r1.small
 refine acO _ _ ?_
 unfold NT
 (repeat' first|refine vsx ?_|(with_reducible refine aS ?_)|(with_reducible refine pG ?_)|fail)
 refine aT x.st.length (fun i vs h2=>vs=[.int .i64 (i:Int)]∧∃ x2 F2,x2={x with st:=lp k i x.st}∧WS n h.n h b F h2 x2 ⟨v0,AV.sl b1 o1 x.st.length,v2,v3,v4,v5,v6,v7,v8,v9,v10⟩ F2) ⟨rfl,x,F,by rw[anp],s⟩ ?_
 rintro i vs h2 hi ⟨rfl,x2,F2,e2,s2⟩
 simp only[g0]
 have bk2:Bk h2 b [AV.int .i64 x2.c.cB,AV.int .i64 x2.c.wait,AV.int .i64 x2.c.budget,AV.int .i64 x2.c.cache,AV.int .i64 x2.c.queue,AV.int .i64 x2.c.rate,AV.int .i64 x2.c.aV,AV.int .i64 x2.c.rule.kind,AV.int .i64 x2.c.rule.n,AV.str x2.c.rule.key,AV.str x2.c.rule.text,v0,AV.int .i64 x2.time,AV.bool x2.shut,(AV.sl b1 o1 x.st.length),AV.int .i64 x2.bQ,AV.int .i64 x2.b.rate,AV.int .i64 x2.b.aV,AV.int .i64 x2.b.tokens,AV.int .i64 x2.b.at_,v2,AV.int .i64 x2.used,AV.int .i64 x2.w.now,v3,v4,v5,v6,v7,v8,v9,v10,AV.int .i64 x2.next] 0:=s2.w.bk
 refine br (fun hlt=>?_) (fun hge=>?_)
 ·obtain⟨y,hy,-,-⟩:=aQ (show i < x.st.length by omega)
  have hy2:x2.st[i]? =some y:=by rw[e2];exact VT hy
  obtain⟨lg,kF,yu,ey,xQ,uT,rW,yj,yg,yh,rX,rO,lZ⟩:=s2.kT (bb:=b1) (off:=o1) hy2 rfl;have ey:EK aM _ _ _ b1 (o1+i * 2) [.int .i64 y.held,lg] _ _ _ _:=ey
  have at1:=ey.at_
  by_cases hk:y.held=(k:Int)
  ·have hg:kY k y={y with held:=-1}:=by unfold kY;rw[if_pos hk]
   (repeat' first|((with_reducible refine dQ ?_);refine EK.st_ (ey.ext aA) (by rfl) (by rfl) bP ?_;intro h_ ey k_ n_)|refine vsx ?_|(with_reducible refine aS ?_)|((with_reducible refine aP ?_);refine bN (by omega) ?_)|(refine br ?_ ?_<;>first|exact bo|intro _)|fail)
   obtain⟨x3,F3,e3,s3,m3⟩:=lZ _ {y with held:=-1} rfl ey
   refine⟨by omega,rfl,x3,F3,?_,s3⟩
   rw[e3,e2,←VR hy,hg]
  ·have hg:kY k y=y:=by unfold kY;rw[if_neg hk]
   (repeat' first|refine vsx ?_|(with_reducible refine aS ?_)|((with_reducible refine aP ?_);refine bN (by omega) ?_)|(refine br ?_ ?_<;>first|exact bo|intro _)|fail)
   exact⟨by omega,rfl,x2,F2,by rw[e2,ak6 hy hg],s2⟩
 ·have:i=x.st.length:=by omega
  subst this
  rw[al2 (Nat.le_refl _)] at e2
  subst e2
  (repeat' first|refine vsw ?_|fail)
  exact⟨rfl,_,rfl,rfl,LJ s2 rfl rfl⟩
theorem M8 {h:AH} {n b k:Nat} {x:Wld} {V:WV} {F:WF} {tr:Int} (w:PW n h b x V F) (h1:1≤(x.st.length:Int)):bE Tryz.prog Bz [.ptr b 0,.int .i64 (k:Int),.int .i64 tr] h fun v h'=>(iK x tr= -1→v= .bool true∧uO n h.n h b F {x with st:=gU x.st tr k} V h')∧(iK x tr≠-1→v= .bool false∧Ext h h'):=by
 obtain⟨v0,v1,v2,v3,v4,v5,v6,v7,v8,v9,v10⟩:=V
 have s:=w.ws
 obtain⟨y,hy⟩:=lD h1 tr
 have hsb:=iG (t:=tr) h1
 have hh:iK x tr=y.held:=KH hy
 obtain⟨b1,o1,e1⟩:=w.r1.sl hy;have e1:v1= .sl b1 o1 x.st.length:=e1;subst e1;have l1:b1 < _:=fO w.r1
 have bk:Bk h b [AV.int .i64 x.c.cB,AV.int .i64 x.c.wait,AV.int .i64 x.c.budget,AV.int .i64 x.c.cache,AV.int .i64 x.c.queue,AV.int .i64 x.c.rate,AV.int .i64 x.c.aV,AV.int .i64 x.c.rule.kind,AV.int .i64 x.c.rule.n,AV.str x.c.rule.key,AV.str x.c.rule.text,v0,AV.int .i64 x.time,AV.bool x.shut,(AV.sl b1 o1 x.st.length),AV.int .i64 x.bQ,AV.int .i64 x.b.rate,AV.int .i64 x.b.aV,AV.int .i64 x.b.tokens,AV.int .i64 x.b.at_,v2,AV.int .i64 x.used,AV.int .i64 x.w.now,v3,v4,v5,v6,v7,v8,v9,v10,AV.int .i64 x.next] 0:=w.bk
 obtain⟨lg,kF,yu,ey,xQ,uT,rW,yj,yg,yh,rX,rO,lZ⟩:=s.kT (bb:=b1) (off:=o1) hy rfl;have ey:EK aM _ _ _ b1 (o1+(stripe tr x.st.length).toNat * 2) [.int .i64 y.held,lg] _ _ _ _:=ey
 have at1:=ey.at_
 refine aa3 _ _ _ ?_
 unfold M9
 by_cases hf:y.held= -1
 ·(repeat' first|((with_reducible refine dQ ?_);refine EK.st_ (ey.ext aA) (by rfl) (by rfl) bP ?_;intro h_ ey k_ n_)|refine vsx ?_|(with_reducible refine aS ?_)|(with_reducible refine pG ?_)|((with_reducible refine aP ?_);refine dY (by omega) (by omega) ?_)|(refine br ?_ ?_<;>first|exact bo|intro _)|((with_reducible refine ay iY ?_);refine aK qx ?_)|fail)
  obtain⟨x1,F1,e1,s1,m1⟩:=lZ _ {y with held:=k} rfl ey
  (repeat' first|refine vsw ?_|fail)
  rw[←wS hy] at e1
  subst e1
  exact⟨rfl,_,rfl,fun _=>⟨rfl,LJ s1 rfl rfl⟩,fun q=>absurd (by omega) q⟩
 ·(repeat' first|refine vsw ?_|(with_reducible refine aS ?_)|(with_reducible refine pG ?_)|((with_reducible refine aP ?_);refine dY (by omega) (by omega) ?_)|(refine br ?_ ?_<;>first|exact bo|intro _)|((with_reducible refine ay iY ?_);refine aK qx ?_)|fail)
  exact⟨rfl,_,rfl,fun q=>absurd (by omega) hf,fun _=>⟨rfl,aA⟩⟩
def mX (x:Wld) (k:Nat) (t:Task) (code stamp:Int):Wld:={x with aI:=upd x.aI t.h.toNat (fun d=>{d with code:=code,stamp:=stamp,lin:=x.time,res:=x.time,now:=x.w.now}),st:=nY k x.st,tasks:=x.tasks.set k xk}
theorem yM {h:AH} {n b k:Nat} {x:Wld} {V:WV} {F:WF} {t:Task} {d:bV} {code stamp:Int} (w:PW n h b x V F) (ht:x.tasks[k]? =some t) (hd:x.aI[t.h.toNat]? =some d) (h0:0≤t.h) (h1:1≤(x.st.length:Int)):bE Tryz.prog vH [.ptr b 0,.int .i64 (k:Int),.int .i64 code,.int .i64 stamp] h fun v h'=>v= .tup []∧mZ n h.n h b F (mX x k t code stamp) h':=by
 obtain⟨v0,v1,v2,v3,v4,v5,v6,v7,v8,v9,v10⟩:=V
 have hk:k < x.tasks.length:=(List.getElem?_eq_some_iff.1 ht).1
 have hdl:t.h.toNat < x.aI.length:=(List.getElem?_eq_some_iff.1 hd).1
 obtain⟨b9,o9,e9⟩:=w.r9.sl ht;have e9:v9= .sl b9 o9 x.tasks.length:=e9;subst e9;have l9:b9 < _:=fO w.r9;obtain⟨b10,o10,e10⟩:=w.r10.sl hd;have e10:v10= .sl b10 o10 x.aI.length:=e10;subst e10;have l10:b10 < _:=fO w.r10
 have bk:Bk h b [AV.int .i64 x.c.cB,AV.int .i64 x.c.wait,AV.int .i64 x.c.budget,AV.int .i64 x.c.cache,AV.int .i64 x.c.queue,AV.int .i64 x.c.rate,AV.int .i64 x.c.aV,AV.int .i64 x.c.rule.kind,AV.int .i64 x.c.rule.n,AV.str x.c.rule.key,AV.str x.c.rule.text,v0,AV.int .i64 x.time,AV.bool x.shut,v1,AV.int .i64 x.bQ,AV.int .i64 x.b.rate,AV.int .i64 x.b.aV,AV.int .i64 x.b.tokens,AV.int .i64 x.b.at_,v2,AV.int .i64 x.used,AV.int .i64 x.w.now,v3,v4,v5,v6,v7,v8,(AV.sl b9 o9 x.tasks.length),(AV.sl b10 o10 x.aI.length),AV.int .i64 x.next] 0:=w.bk
 have s:=w.ws
 obtain⟨fJ,fP,dW,nV,oz,ek,nU,nT,oC,jV,oq,oh,om,mY,mM,jq⟩:=s.fH (bb:=b9) (off:=o9) ht rfl;have ek:EK Task _ _ _ b9 (o9+k * 12) [.int .i64 t.op,.int .i64 t.pc,.int .i64 t.s.trace,.int .i64 t.s.id,.int .i64 t.s.start,.int .i64 t.s.fin,.bool t.s.err,fJ,.int .i64 t.trace,.int .i64 t.stamp,fP,.int .i64 t.h] _ _ _ _:=ek
 have at9:=ek.at_
 obtain⟨MG,amK,anM,ed,amJ,anN,anJ,anL,anI,anK,anO,WM,GK⟩:=s.VP (bb:=b10) (off:=o10) hd rfl;have ed:EK bV _ _ _ b10 (o10+t.h.toNat * 20) [.int .i64 d.op,.int .i64 d.task,.int .i64 d.s.trace,.int .i64 d.s.id,.int .i64 d.s.start,.int .i64 d.s.fin,.bool d.s.err,MG,.int .i64 d.trace,.int .i64 d.stamp,.int .i64 d.code,.bool d.keep,.bool d.void,.int .i64 d.took,.int .i64 d.n,.int .i64 d.forgot,.int .i64 d.now,.int .i64 d.inv,.int .i64 d.lin,.int .i64 d.res] _ _ _ _:=ed
 refine aek _ _ _ _ ?_
 unfold OT
 (repeat' first|((with_reducible refine dQ ?_);refine EK.st_ (ed.ext aA) (by rfl) (by rfl) bP ?_;intro h_ ed k_ n_)|refine vsx ?_|(with_reducible refine aS ?_)|((with_reducible refine aP ?_);first|refine bN (by omega) ?_|refine dY (by omega) (by omega) ?_)|fail)
 obtain⟨x1,F1,e1,s1,m1⟩:=GK _ {d with code:=code,stamp:=stamp,lin:=x.time,res:=x.time,now:=x.w.now} rfl ed
 have h11:1≤(x1.st.length:Int):=by rw[e1];exact h1
 refine aG (vv s1.w h11) ?_
 rintro _ h3 ⟨rfl,W⟩
 obtain⟨V3,F3,s3,-⟩:=s1.call W.went
 obtain⟨x3,hx3,s3⟩:=s3.gen
 obtain⟨v0,v1,v2,v3,v4,v5,v6,v7,v8,v9,v10⟩:=V3
 have ht3:x3.tasks[k]? =some t:=by rw[hx3,e1];exact ht
 have hk3:=(List.getElem?_eq_some_iff.1 ht3).1
 have w3:=s3.w
 obtain⟨b9,o9,e9⟩:=w3.r9.sl ht3;have e9:v9= .sl b9 o9 x3.tasks.length:=e9;subst e9;have l9:b9 < _:=fO w3.r9
 have bk3:Bk h3 b [AV.int .i64 x3.c.cB,AV.int .i64 x3.c.wait,AV.int .i64 x3.c.budget,AV.int .i64 x3.c.cache,AV.int .i64 x3.c.queue,AV.int .i64 x3.c.rate,AV.int .i64 x3.c.aV,AV.int .i64 x3.c.rule.kind,AV.int .i64 x3.c.rule.n,AV.str x3.c.rule.key,AV.str x3.c.rule.text,v0,AV.int .i64 x3.time,AV.bool x3.shut,v1,AV.int .i64 x3.bQ,AV.int .i64 x3.b.rate,AV.int .i64 x3.b.aV,AV.int .i64 x3.b.tokens,AV.int .i64 x3.b.at_,v2,AV.int .i64 x3.used,AV.int .i64 x3.w.now,v3,v4,v5,v6,v7,v8,(AV.sl b9 o9 x3.tasks.length),v10,AV.int .i64 x3.next] 0:=w3.bk
 obtain⟨eO,eG,jL,jK,jS,et,jJ,jI,jT,jP,jR,jO,jQ,jU,iU,fB⟩:=s3.fH (bb:=b9) (off:=o9) ht3 rfl;have et:EK Task _ _ _ b9 (o9+k * 12) [.int .i64 t.op,.int .i64 t.pc,.int .i64 t.s.trace,.int .i64 t.s.id,.int .i64 t.s.start,.int .i64 t.s.fin,.bool t.s.err,eO,.int .i64 t.trace,.int .i64 t.stamp,eG,.int .i64 t.h] _ _ _ _:=et
 (repeat' first|refine vsx ?_|(with_reducible refine aS ?_)|((with_reducible refine aP ?_);refine bN (by omega) ?_)|fail)
 refine EK.st0 et (by rfl) (by rfl) bP ?_
 intro h4 et k4 n4
 obtain⟨x4,F4,e4,s4,m4⟩:=iU h4 xk .au .au [] [] et aj.au aj.au Own.nil (by simp)
 (repeat' first|refine vsw ?_|(refine br ?_ ?_<;>first|exact bx|intro _)|((with_reducible refine aP ?_);((first|refine ix ?_|refine ixi ?_|(refine ixg ?_;intro _ _)|(refine kZ ?_;intro _ _));first|rintro _ _ _ _ _ ⟨rfl,rfl⟩ _|rintro _ _ _ _ _ ⟨_,rfl,_⟩ _|rintro _ _ _ _ _ ⟨_,_,_,_,rfl,rfl,_,_⟩ _|intro _ _ _ _ _ _ _))|(refine sx ?_;intro _ _)|((with_reducible refine bF ?_);simp only[g0,g1,g2]))
 have e:x4=mX x k t code stamp:=by rw[e4,hx3,e1];unfold mX;rw[kQ hd]
 rw[e] at s4
 exact⟨rfl,_,rfl,rfl,s4.done⟩
end Go.Proofs.YtekfdoknfcedpaaGreat
