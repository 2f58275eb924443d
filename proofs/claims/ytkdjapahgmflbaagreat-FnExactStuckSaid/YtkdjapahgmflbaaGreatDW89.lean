import Derived.Test.YtkdjapahgmflbaaGreatDW81
set_option linter.unusedSimpArgs false
set_option linter.unusedVariables false
set_option maxHeartbeats 2000000
namespace Go.Proofs.YtkdjapahgmflbaaGreat
open Go Go.Ab
attribute[local irreducible] cZ
section
def Pj (x0 x1:AV):Prog:=Lf 14 x0 fun a=>Ln 0 a fun a=>.loop [.int .i64 0] (fun b=>Bn .lss (g b 0) a fun a=>.ite a (Lf 14 x0 fun a=>Ix 2 a (g b 0) fun a=>Lg 0 a fun a=>Bn .eql a x1 fun a=>.scope (.ite a (Lf 14 x0 fun a=>Ix 2 a (g b 0) fun a=>.op (.fad 0 a) fun a=>.op (.st 1 a (.int .i64 (-1))) fun _=>.leaf 0 []) (.leaf 0 [])) (fun _=>Bn .add (g b 0) (.int .i64 1) fun a=>.leaf 0 [a]) fun a b=>aB a 1 (.leaf 1 b) .bad) (.leaf 2 [g b 0])) fun a b=>aB a 1 (.leaf 1 b) (aB a 2 (.fin []) .bad)
theorem ab2 (x0 x1:AV):CC Tryz.prog wW [x0,x1] (Pj x0 x1):=cc Tryz.func230 [0,1,9,10] (fun _=>[])
def OG (x0 x1 x2:AV):Prog:=.op (.bg x0) fun a=>.op (.fad 14 a) fun a=>.op (.ld1 a) fun b=>Lf 14 x0 fun c=>Ln 0 c fun c=>Cl jU [x2,c] fun c=>.chk (.ld1 a) b (Ix 2 b c fun a=>Lf 0 a fun b=>.op (.bin 0 .neq b (.int .i64 (-1))) fun b=>.ite b (.fin [.val (.bool false)]) (Sf 0 a x1 fun _=>.fin [.val (.bool true)]))
theorem aaZ (x0 x1 x2:AV):CC Tryz.prog zP [x0,x1,x2] (OG x0 x1 x2):=cc Tryz.func119 [] (fun r=>if r=1 then[(0,[]),(1,[]),(2,[]),(3,[]),(4,[]),(5,[]),(6,[]),(7,[]),(8,[]),(9,[]),(10,[3]),(11,[]),(12,[])] else[])
def Qq (x0 x1 x2 x3:AV):Prog:=Lf 30 x0 fun a=>Lf 29 x0 fun b=>Ix 12 b x1 fun b=>Lg 11 b fun b=>Ix 20 a b fun a=>Lf 12 x0 fun b=>Lf 12 x0 fun c=>.op (.bg x0) fun d=>.op (.fad 22 d) fun d=>Lg 0 d fun d=>Sf 10 a x2 fun _=>Sf 9 a x3 fun _=>Sf 18 a b fun _=>Sf 19 a c fun _=>Sf 16 a d fun _=>Cl wW [x0,x1] fun _=>Lf 29 x0 fun a=>.op (.build gJ []) fun b=>Ix 12 a x1 fun a=>.op (.st 12 a b) fun _=>.fin []
theorem adB (x0 x1 x2 x3:AV):CC Tryz.prog xk [x0,x1,x2,x3] (Qq x0 x1 x2 x3):=cc Tryz.func228 [] (fun r=>if r=0 then[(0,[]),(1,[]),(2,[]),(3,[]),(4,[]),(5,[]),(6,[]),(7,[]),(8,[]),(9,[]),(10,[]),(11,[]),(12,[]),(13,[])] else if r=1 then[(0,[]),(1,[]),(2,[]),(3,[]),(4,[]),(5,[]),(6,[]),(7,[]),(8,[]),(9,[]),(10,[]),(11,[]),(12,[]),(13,[]),(14,[]),(15,[]),(16,[]),(17,[]),(18,[]),(19,[]),(20,[]),(21,[]),(22,[]),(23,[]),(24,[]),(25,[]),(26,[]),(27,[]),(28,[]),(29,[]),(30,[]),(31,[]),(32,[]),(33,[]),(34,[])] else[])
def TH (x0 x1:AV):Prog:=Lf 30 x0 fun a=>Lf 29 x0 fun b=>Ix 12 b x1 fun b=>Lg 11 b fun b=>Lf 12 x0 fun c=>Ix 20 a b fun a=>Sg 19 a c fun _=>Lf 29 x0 fun a=>.op (.build gJ []) fun b=>Ix 12 a x1 fun a=>.op (.st 12 a b) fun _=>.fin []
theorem ahH (x0 x1:AV):CC Tryz.prog Fq [x0,x1] (TH x0 x1):=cc Tryz.func237 [] (fun r=>if r=0 then[(0,[]),(1,[]),(2,[]),(3,[]),(4,[]),(5,[]),(6,[]),(7,[]),(8,[]),(9,[]),(10,[]),(11,[]),(12,[]),(13,[]),(14,[]),(15,[]),(16,[]),(17,[]),(18,[])] else[])
end
def uo (n m:Nat) (h:AH) (b:Nat) (F:WF) (y:Wld) (V:WV) (h':AH):Prop:=∃ V' F',PW n h' b y V' F'∧Mv m h b F h' F'∧V'.v9=V.v9∧V'.v10=V.v10
section
variable{n m b:Nat} {h0 h h':AH} {F0 F:WF} {x y:Wld} {V V':WV}
theorem Ir (s:WS n m h0 b F0 h x V F) (e9:V.v9=V'.v9) (e10:V.v10=V'.v10):uo n m h0 b F0 x V' h:=⟨V,F,s.w,s.mv,e9,e10⟩
theorem uo.went (W:uo n m h b F y V h'):kX n m h b F y h':=let⟨V',F',w,mv,_⟩:=W;⟨V',F',w,mv⟩
theorem ni (s:WS n m h0 b F0 h x V F) (W:uo n h.n h b F y V h'):∃ V' F',WS n m h0 b F0 h' y V' F'∧V'.v9=V.v9∧V'.v10=V.v10∧Kp h h' (b::F.a)∧h.n≤h'.n∧∀ c∈F'.a,c∈F.a∨h.n≤c:=by
 obtain⟨V',F',w',mv',e9,e10⟩:=W
 have k:=mv'.kp
 exact⟨V',F',⟨w',s.mv.trans (mv'.low s.hm),Nat.le_trans s.hm k.1⟩,e9,e10,k,k.1,mv'.fr⟩
end
def mI (k:Int) (s:aQ):aQ:=if s.held=k then{s with held:=-1} else s
def mG (k:Int) (st:List aQ):List aQ:=st.map (mI k)
def lp (k:Int) (i:Nat) (st:List aQ):List aQ:=(st.take i).map (mI k)++st.drop i
section
variable{k:Int} {i:Nat} {l:List aQ} {a:aQ}
theorem anF:lp k 0 l=l:=by simp[lp]
theorem amg (h:l.length≤i):lp k i l=mG k l:=by unfold lp mG;rw[List.take_of_length_le h,List.drop_eq_nil_of_le h,List.append_nil]
theorem Yr (h:l[i]? =some a):(lp k i l)[i]? =some a:=by
 have hi:=(List.getElem?_eq_some_iff.1 h).1
 unfold lp
 rw[List.getElem?_append_right (by simp;omega),List.getElem?_drop]
 have:i+(i - (List.map (mI k) (List.take i l)).length)=i:=by simp;omega
 rw[this];exact h
theorem Yq (h:l[i]? =some a):(lp k i l).set i (mI k a)=lp k (i+1) l:=by
 have hi:=(List.getElem?_eq_some_iff.1 h).1
 obtain⟨x,hx,hd,htk⟩:=aP hi
 rw[h] at hx;cases hx
 unfold lp
 rw[List.set_append_right _ _ (by simp;omega),htk,hd]
 have:i - (List.map (mI k) (List.take i l)).length=0:=by simp;omega
 rw[this];simp
theorem alf (h:l[i]? =some a) (hs:mI k a=a):lp k (i+1) l=lp k i l:=by
 rw[←Yq h,hs]
 have hi:=(List.getElem?_eq_some_iff.1 (Yr (k:=k) h))
 obtain⟨h1,h2⟩:=hi
 conv=>lhs;rw[←h2]
 exact List.set_getElem_self h1
end
theorem uL {h:AH} {n b k:Nat} {x:Wld} {V:WV} {F:WF} (w:PW n h b x V F) (h1:1≤(x.st.length:Int)):bN Tryz.prog wW [.ptr b 0,.int .i64 (k:Int)] h fun v h'=>v= .tup []∧uo n h.n h b F {x with st:=mG k x.st} V h':=by
 obtain⟨v0,v1,v2,v3,v4,v5,v6,v7,v8,v9,v10⟩:=V
 have s:=w.ws
 obtain⟨y0,hy0⟩:∃ y0,x.st[0]? =some y0:=⟨x.st[0]'(by omega),List.getElem?_eq_getElem _⟩
 obtain⟨b1,o1,e1⟩:=w.r1.sl hy0;have e1:v1= .sl b1 o1 x.st.length:=e1;subst e1;have l1:b1 < _:=dZ w.r1
 have bk:=bkE w
 have hsm:=w.r1.small
 refine ab2 _ _ ?_
 unfold Pj
 (repeat' first|refine vsx ?_|refine ao4 ?_|fail)
 refine aT x.st.length (fun i vs h2=>vs=[.int .i64 (i:Int)]∧∃ x2 F2,x2={x with st:=lp k i x.st}∧WS n h.n h b F h2 x2 ⟨v0,AV.sl b1 o1 x.st.length,v2,v3,v4,v5,v6,v7,v8,v9,v10⟩ F2) ⟨rfl,x,F,by rw[anF],s⟩ ?_
 rintro i vs h2 hi ⟨rfl,x2,F2,e2,s2⟩
 simp only[g0]
 have bk2:=bkE s2.w
 refine br (fun hlt=>?_) (fun hge=>?_)
 ·obtain⟨y,hy,-,-⟩:=aP (show i < x.st.length by omega)
  have hy2:x2.st[i]? =some y:=by rw[e2];exact Yr hy
  obtain⟨kW,kT,wR,ey,wH,uE,rH,wQ,wO,wP,rJ,rz,lV⟩:=s2.kS (bb:=b1) (off:=o1) hy2 rfl;have ey:EK aQ _ _ _ b1 (o1+i * 2) [.int .i64 y.held,kW] _ _ _ _:=ey
  have at1:=ey.at_
  by_cases hk:y.held=(k:Int)
  ·have hg:mI k y={y with held:=-1}:=by unfold mI;rw[if_pos hk]
   (repeat' first|((with_reducible refine bW ?_);refine EK.st_ (ey.ext aD) (by rfl) (by rfl) aX ?_;intro h_ ey k_ n_)|refine vsx ?_|refine ao4 ?_|(refine br ?_ ?_<;>first|exact bo|intro _)|fail)
   obtain⟨x3,F3,e3,s3,m3⟩:=lV _ {y with held:=-1} rfl ey
   refine⟨by omega,rfl,x3,F3,?_,s3⟩
   rw[e3,e2,←Yq hy,hg]
  ·have hg:mI k y=y:=by unfold mI;rw[if_neg hk]
   (repeat' first|refine vsx ?_|refine ao4 ?_|(refine br ?_ ?_<;>first|exact bo|intro _)|fail)
   exact⟨by omega,rfl,x2,F2,by rw[e2,alf hy hg],s2⟩
 ·have:i=x.st.length:=by omega
  subst this
  rw[amg (Nat.le_refl _)] at e2
  subst e2
  (repeat' first|refine vsw ?_|fail)
  exact⟨rfl,_,rfl,rfl,Ir s2 rfl rfl⟩
theorem Jf {h:AH} {n b k:Nat} {x:Wld} {V:WV} {F:WF} {tr:Int} (w:PW n h b x V F) (h1:1≤(x.st.length:Int)):bN Tryz.prog zP [.ptr b 0,.int .i64 (k:Int),.int .i64 tr] h fun v h'=>(iB x tr= -1→v= .bool true∧uo n h.n h b F {x with st:=gy x.st tr k} V h')∧(iB x tr≠-1→v= .bool false∧Ext h h'):=by
 obtain⟨v0,v1,v2,v3,v4,v5,v6,v7,v8,v9,v10⟩:=V
 have s:=w.ws
 obtain⟨y,hy⟩:=lu h1 tr
 have hsb:=iU (t:=tr) h1
 have hh:iB x tr=y.held:=Gp hy
 obtain⟨b1,o1,e1⟩:=w.r1.sl hy;have e1:v1= .sl b1 o1 x.st.length:=e1;subst e1;have l1:b1 < _:=dZ w.r1
 have bk:=bkE w
 obtain⟨kW,kT,wR,ey,wH,uE,rH,wQ,wO,wP,rJ,rz,lV⟩:=s.kS (bb:=b1) (off:=o1) hy rfl;have ey:EK aQ _ _ _ b1 (o1+(stripe tr x.st.length).toNat * 2) [.int .i64 y.held,kW] _ _ _ _:=ey
 have at1:=ey.at_
 refine aaZ _ _ _ ?_
 unfold OG
 by_cases hf:y.held= -1
 ·(repeat' first|((with_reducible refine bW ?_);refine EK.st_ (ey.ext aD) (by rfl) (by rfl) aX ?_;intro h_ ey k_ n_)|refine vsx ?_|refine ao4 ?_|(refine br ?_ ?_<;>first|exact bo|intro _)|((with_reducible refine aA jU ?_);refine aJ rZ ?_)|fail)
  obtain⟨x1,F1,e1,s1,m1⟩:=lV _ {y with held:=k} rfl ey
  (repeat' first|refine vsw ?_|fail)
  rw[←qC hy] at e1
  subst e1
  exact⟨rfl,_,rfl,fun _=>⟨rfl,Ir s1 rfl rfl⟩,fun q=>absurd (by omega) q⟩
 ·(repeat' first|refine vsw ?_|refine ao4 ?_|(refine br ?_ ?_<;>first|exact bo|intro _)|((with_reducible refine aA jU ?_);refine aJ rZ ?_)|fail)
  exact⟨rfl,_,rfl,fun q=>absurd (by omega) hf,fun _=>⟨rfl,aD⟩⟩
def oq (x:Wld) (k:Nat) (t:Task) (code stamp:Int):Wld:={x with aF:=upd x.aF t.h.toNat (fun d=>{d with code:=code,stamp:=stamp,lin:=x.time,res:=x.time,now:=x.w.now}),st:=mG k x.st,tasks:=x.tasks.set k kN}
theorem Aa {h:AH} {n b k:Nat} {x:Wld} {V:WV} {F:WF} {t:Task} {d:bI} {code stamp:Int} (w:PW n h b x V F) (ht:x.tasks[k]? =some t) (hd:x.aF[t.h.toNat]? =some d) (h0:0≤t.h) (h1:1≤(x.st.length:Int)):bN Tryz.prog xk [.ptr b 0,.int .i64 (k:Int),.int .i64 code,.int .i64 stamp] h fun v h'=>v= .tup []∧kX n h.n h b F (oq x k t code stamp) h':=by
 obtain⟨v0,v1,v2,v3,v4,v5,v6,v7,v8,v9,v10⟩:=V
 have hk:k < x.tasks.length:=(List.getElem?_eq_some_iff.1 ht).1
 have hdl:t.h.toNat < x.aF.length:=(List.getElem?_eq_some_iff.1 hd).1
 obtain⟨b9,o9,e9⟩:=w.r9.sl ht;have e9:v9= .sl b9 o9 x.tasks.length:=e9;subst e9;have l9:b9 < _:=dZ w.r9;obtain⟨b10,o10,e10⟩:=w.r10.sl hd;have e10:v10= .sl b10 o10 x.aF.length:=e10;subst e10;have l10:b10 < _:=dZ w.r10
 have bk:=bkE w
 have s:=w.ws
 obtain⟨dI,dJ,dU,j6,kG,ek,j5,j4,kH,iT,kF,kD,kE,jT,jk,gW⟩:=s.dL (bb:=b9) (off:=o9) ht rfl;have ek:EK Task _ _ _ b9 (o9+k * 12) [.int .i64 t.op,.int .i64 t.pc,.int .i64 t.s.trace,.int .i64 t.s.id,.int .i64 t.s.start,.int .i64 t.s.fin,.bool t.s.err,dI,.int .i64 t.trace,.int .i64 t.stamp,dJ,.int .i64 t.h] _ _ _ _:=ek
 have at9:=ek.at_
 obtain⟨jm,rC,rR,ed,rA,rU,rP,pQ,rO,rQ,rV,pG,je⟩:=s.mU (bb:=b10) (off:=o10) hd rfl;have ed:EK bI _ _ _ b10 (o10+t.h.toNat * 20) [.int .i64 d.op,.int .i64 d.task,.int .i64 d.s.trace,.int .i64 d.s.id,.int .i64 d.s.start,.int .i64 d.s.fin,.bool d.s.err,jm,.int .i64 d.trace,.int .i64 d.stamp,.int .i64 d.code,.bool d.keep,.bool d.void,.int .i64 d.took,.int .i64 d.n,.int .i64 d.forgot,.int .i64 d.now,.int .i64 d.inv,.int .i64 d.lin,.int .i64 d.res] _ _ _ _:=ed
 refine adB _ _ _ _ ?_
 unfold Qq
 (repeat' first|((with_reducible refine bW ?_);refine EK.st_ (ed.ext aD) (by rfl) (by rfl) aX ?_;intro h_ ed k_ n_)|refine vsx ?_|refine ao4 ?_|fail)
 obtain⟨x1,F1,e1,s1,m1⟩:=je _ {d with code:=code,stamp:=stamp,lin:=x.time,res:=x.time,now:=x.w.now} rfl ed
 have h11:1≤(x1.st.length:Int):=by rw[e1];exact h1
 refine aK (uL s1.w h11) ?_
 rintro _ h3 ⟨rfl,W⟩
 obtain⟨V3,F3,s3,-⟩:=s1.call W.went
 obtain⟨x3,hx3,s3⟩:=s3.gen
 obtain⟨v0,v1,v2,v3,v4,v5,v6,v7,v8,v9,v10⟩:=V3
 have ht3:x3.tasks[k]? =some t:=by rw[hx3,e1];exact ht
 have hk3:=(List.getElem?_eq_some_iff.1 ht3).1
 have w3:=s3.w
 obtain⟨b9,o9,e9⟩:=w3.r9.sl ht3;have e9:v9= .sl b9 o9 x3.tasks.length:=e9;subst e9;have l9:b9 < _:=dZ w3.r9
 have bk3:=bkE w3
 obtain⟨bZ,bY,gF,gD,gU,et,gM,gL,gI,fZ,gT,gP,gQ,gV,fF,dH⟩:=s3.dL (bb:=b9) (off:=o9) ht3 rfl;have et:EK Task _ _ _ b9 (o9+k * 12) [.int .i64 t.op,.int .i64 t.pc,.int .i64 t.s.trace,.int .i64 t.s.id,.int .i64 t.s.start,.int .i64 t.s.fin,.bool t.s.err,bZ,.int .i64 t.trace,.int .i64 t.stamp,bY,.int .i64 t.h] _ _ _ _:=et
 (repeat' first|refine vsx ?_|refine ao4 ?_|fail)
 refine EK.st0 et (by rfl) (by rfl) aX ?_
 intro h4 et k4 n4
 obtain⟨x4,F4,e4,s4,m4⟩:=fF h4 kN .aC .aC [] [] et au.aC au.aC Own.nil (by simp)
 (repeat' first|refine vsw ?_|(refine br ?_ ?_<;>first|exact bx|intro _)|((with_reducible refine aY ?_);((first|refine ix ?_|refine ixi ?_|(refine ixg ?_;intro _ _)|(refine ku ?_;intro _ _));first|rintro _ _ _ _ _ ⟨rfl,rfl⟩ _|rintro _ _ _ _ _ ⟨_,rfl,_⟩ _|rintro _ _ _ _ _ ⟨_,_,_,_,rfl,rfl,_,_⟩ _|intro _ _ _ _ _ _ _))|(refine sx ?_;intro _ _)|refine gS ?_|fail)
 have e:x4=oq x k t code stamp:=by rw[e4,hx3,e1];unfold oq;rw[iQ hd]
 rw[e] at s4
 exact⟨rfl,_,rfl,rfl,s4.done⟩
def wM (x:Wld) (k:Nat) (t:Task):Wld:={x with aF:=upd x.aF t.h.toNat (fun d=>{d with res:=x.time}),tasks:=x.tasks.set k kN}
theorem Sq {h:AH} {n b k:Nat} {x:Wld} {V:WV} {F:WF} {t:Task} {d:bI} (w:PW n h b x V F) (ht:x.tasks[k]? =some t) (hd:x.aF[t.h.toNat]? =some d) (h0:0≤t.h):bN Tryz.prog Fq [.ptr b 0,.int .i64 (k:Int)] h fun v h'=>v= .tup []∧kX n h.n h b F (wM x k t) h':=by
 obtain⟨v0,v1,v2,v3,v4,v5,v6,v7,v8,v9,v10⟩:=V
 have hk:k < x.tasks.length:=(List.getElem?_eq_some_iff.1 ht).1
 have hdl:t.h.toNat < x.aF.length:=(List.getElem?_eq_some_iff.1 hd).1
 obtain⟨b9,o9,e9⟩:=w.r9.sl ht;have e9:v9= .sl b9 o9 x.tasks.length:=e9;subst e9;have l9:b9 < _:=dZ w.r9;obtain⟨b10,o10,e10⟩:=w.r10.sl hd;have e10:v10= .sl b10 o10 x.aF.length:=e10;subst e10;have l10:b10 < _:=dZ w.r10
 have bk:=bkE w
 have s:=w.ws
 obtain⟨dI,dJ,dU,j6,kG,ek,j5,j4,kH,iT,kF,kD,kE,jT,jk,gW⟩:=s.dL (bb:=b9) (off:=o9) ht rfl;have ek:EK Task _ _ _ b9 (o9+k * 12) [.int .i64 t.op,.int .i64 t.pc,.int .i64 t.s.trace,.int .i64 t.s.id,.int .i64 t.s.start,.int .i64 t.s.fin,.bool t.s.err,dI,.int .i64 t.trace,.int .i64 t.stamp,dJ,.int .i64 t.h] _ _ _ _:=ek
 have at9:=ek.at_
 obtain⟨jm,rC,rR,ed,rA,rU,rP,pQ,rO,rQ,rV,pG,je⟩:=s.mU (bb:=b10) (off:=o10) hd rfl;have ed:EK bI _ _ _ b10 (o10+t.h.toNat * 20) [.int .i64 d.op,.int .i64 d.task,.int .i64 d.s.trace,.int .i64 d.s.id,.int .i64 d.s.start,.int .i64 d.s.fin,.bool d.s.err,jm,.int .i64 d.trace,.int .i64 d.stamp,.int .i64 d.code,.bool d.keep,.bool d.void,.int .i64 d.took,.int .i64 d.n,.int .i64 d.forgot,.int .i64 d.now,.int .i64 d.inv,.int .i64 d.lin,.int .i64 d.res] _ _ _ _:=ed
 refine ahH _ _ ?_
 unfold TH
 (repeat' first|((with_reducible refine bW ?_);refine EK.st_ (ed.ext aD) (by rfl) (by rfl) aX ?_;intro h_ ed k_ n_)|refine vsx ?_|refine ao4 ?_|fail)
 obtain⟨x1,F1,e1,s1,m1⟩:=je _ {d with res:=x.time} rfl ed
 have ht1:x1.tasks[k]? =some t:=by rw[e1];exact ht
 obtain⟨bZ,bY,gF,gD,gU,et,gM,gL,gI,fZ,gT,gP,gQ,gV,fF,dH⟩:=s1.dL (bb:=b9) (off:=o9) ht1 rfl;have et:EK Task _ _ _ b9 (o9+k * 12) [.int .i64 t.op,.int .i64 t.pc,.int .i64 t.s.trace,.int .i64 t.s.id,.int .i64 t.s.start,.int .i64 t.s.fin,.bool t.s.err,bZ,.int .i64 t.trace,.int .i64 t.stamp,bY,.int .i64 t.h] _ _ _ _:=et
 refine EK.st0 et (by rfl) (by rfl) aX ?_
 intro h4 et k4 n4
 obtain⟨x4,F4,e4,s4,m4⟩:=fF h4 kN .aC .aC [] [] et au.aC au.aC Own.nil (by simp)
 (repeat' first|refine vsw ?_|(refine br ?_ ?_<;>first|exact bx|intro _)|((with_reducible refine aY ?_);((first|refine ix ?_|refine ixi ?_|(refine ixg ?_;intro _ _)|(refine ku ?_;intro _ _));first|rintro _ _ _ _ _ ⟨rfl,rfl⟩ _|rintro _ _ _ _ _ ⟨_,rfl,_⟩ _|rintro _ _ _ _ _ ⟨_,_,_,_,rfl,rfl,_,_⟩ _|intro _ _ _ _ _ _ _))|(refine sx ?_;intro _ _)|refine gS ?_|fail)
 have e:x4=wM x k t:=by rw[e4,e1];unfold wM;rw[iQ hd]
 rw[e] at s4
 exact⟨rfl,_,rfl,rfl,s4.done⟩
end Go.Proofs.YtkdjapahgmflbaaGreat
