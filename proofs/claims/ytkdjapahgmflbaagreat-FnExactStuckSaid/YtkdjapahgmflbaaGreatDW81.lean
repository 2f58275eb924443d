import Derived.Test.YtkdjapahgmflbaaGreatDW60
import Derived.Test.YtkdjapahgmflbaaGreatDK5
import Derived.Test.YtkdjapahgmflbaaGreatDAb56
section
set_option linter.unusedSimpArgs false
set_option linter.unusedVariables false
set_option maxHeartbeats 2000000
namespace Go.Proofs.YtkdjapahgmflbaaGreat
open Go Go.Ab
attribute[local irreducible] cZ
section
def SH (x0 x1 x2 x3:AV):Prog:=Lf 29 x0 fun a=>Ix 12 a x1 fun a=>Ld 12 a fun a=>.op (.alloc gJ) fun b=>.op (.st 12 b a) fun _=>Lf 30 x0 fun a=>Lg 11 b fun c=>Ix 20 a c fun a=>Sf 10 a x2 fun _=>Sf 9 a x3 fun _=>Lf 12 x0 fun c=>Sf 18 a c fun _=>Lf 12 x0 fun c=>Sf 19 a c fun _=>.op (.bg x0) fun c=>.op (.fad 22 c) fun c=>Lg 0 c fun c=>Sf 16 a c fun _=>.op (.bg x0) fun a=>.op (.fad 14 a) fun a=>.op (.ld1 a) fun c=>.op (.fad 2 b) fun b=>Lg 0 b fun b=>Lf 14 x0 fun d=>Ln 0 d fun d=>Cl d9 [b,d] fun b=>.chk (.ld1 a) c (Ix 2 c b fun a=>.op (.fad 0 a) fun a=>.op (.st 1 a (.int .i64 (-1))) fun _=>Lf 29 x0 fun a=>.op (.build gJ []) fun b=>Ix 12 a x1 fun a=>.op (.st 12 a b) fun _=>.fin [])
theorem ag4 (x0 x1 x2 x3:AV):CC Tryz.prog xG [x0,x1,x2,x3] (SH x0 x1 x2 x3):=cc Tryz.func327 [] (fun r=>if r=1 then[(0,[]),(1,[]),(2,[]),(3,[]),(4,[]),(5,[]),(6,[]),(7,[])] else if r=7 then[(0,[]),(1,[]),(2,[]),(3,[]),(4,[]),(5,[]),(6,[]),(7,[]),(8,[]),(9,[]),(10,[]),(11,[]),(12,[3]),(13,[]),(14,[]),(15,[])] else[])
end
theorem aml {x:Wld} {k:Nat} {t:Task} {code stamp:Int} {d:bI} {y:aQ} (hd:x.aF[t.h.toNat]? =some d) (hy:x.st[(stripe t.s.trace x.st.length).toNat]? =some y):om x k t code stamp={x with aF:=x.aF.set t.h.toNat {d with code:=code,stamp:=stamp,lin:=x.time,res:=x.time,now:=x.w.now},st:=x.st.set (stripe t.s.trace x.st.length).toNat {y with held:=-1},tasks:=x.tasks.set k kN}:=by
 unfold om gy;rw[iQ hd,iQ hy]
theorem Aj {h:AH} {n b k:Nat} {x:Wld} {V:WV} {F:WF} {t:Task} {d:bI} {code stamp:Int} (w:PW n h b x V F) (ht:x.tasks[k]? =some t) (hd:x.aF[t.h.toNat]? =some d) (h0:0≤t.h) (h1:1≤(x.st.length:Int)):bN Tryz.prog xG [.ptr b 0,.int .i64 (k:Int),.int .i64 code,.int .i64 stamp] h fun v h'=>v= .tup []∧kX n h.n h b F (om x k t code stamp) h':=by
 obtain⟨v0,v1,v2,v3,v4,v5,v6,v7,v8,v9,v10⟩:=V
 obtain⟨y,hy⟩:=lu h1 t.s.trace
 have hsb:=iU (t:=t.s.trace) h1
 have hk:k < x.tasks.length:=(List.getElem?_eq_some_iff.1 ht).1
 have hdl:t.h.toNat < x.aF.length:=(List.getElem?_eq_some_iff.1 hd).1
 rw[aml hd hy]
 obtain⟨b1,o1,e1⟩:=w.r1.sl hy;have e1:v1= .sl b1 o1 x.st.length:=e1;subst e1;have l1:b1 < _:=dZ w.r1;obtain⟨b9,o9,e9⟩:=w.r9.sl ht;have e9:v9= .sl b9 o9 x.tasks.length:=e9;subst e9;have l9:b9 < _:=dZ w.r9;obtain⟨b10,o10,e10⟩:=w.r10.sl hd;have e10:v10= .sl b10 o10 x.aF.length:=e10;subst e10;have l10:b10 < _:=dZ w.r10
 have bk:=bkE w
 have s:=w.ws
 obtain⟨dI,dJ,dU,j6,kG,ek,j5,j4,kH,iT,kF,kD,kE,jT,jk,gW⟩:=s.dL (bb:=b9) (off:=o9) ht rfl;have ek:EK Task _ _ _ b9 (o9+k * 12) [.int .i64 t.op,.int .i64 t.pc,.int .i64 t.s.trace,.int .i64 t.s.id,.int .i64 t.s.start,.int .i64 t.s.fin,.bool t.s.err,dI,.int .i64 t.trace,.int .i64 t.stamp,dJ,.int .i64 t.h] _ _ _ _:=ek
 have at9:=ek.at_
 obtain⟨jm,rC,rR,ed,rA,rU,rP,pQ,rO,rQ,rV,pG,je⟩:=s.mU (bb:=b10) (off:=o10) hd rfl;have ed:EK bI _ _ _ b10 (o10+t.h.toNat * 20) [.int .i64 d.op,.int .i64 d.task,.int .i64 d.s.trace,.int .i64 d.s.id,.int .i64 d.s.start,.int .i64 d.s.fin,.bool d.s.err,jm,.int .i64 d.trace,.int .i64 d.stamp,.int .i64 d.code,.bool d.keep,.bool d.void,.int .i64 d.took,.int .i64 d.n,.int .i64 d.forgot,.int .i64 d.now,.int .i64 d.inv,.int .i64 d.lin,.int .i64 d.res] _ _ _ _:=ed
 refine ag4 _ _ _ _ ?_
 unfold SH
 (repeat' first|((with_reducible refine bW ?_);refine EK.st_ (ed.ext aD) (by rfl) (by rfl) aX ?_;intro h_ ed k_ n_)|refine vsw ?_|refine ao4 ?_|((with_reducible refine aA d9 ?_);refine aJ iD ?_)|fail)
 obtain⟨x1,F1,e1,s1,m1⟩:=je _ {d with code:=code,stamp:=stamp,lin:=x.time,res:=x.time,now:=x.w.now} rfl ed
 have hy1:x1.st[(stripe t.s.trace x.st.length).toNat]? =some y:=by rw[e1];exact hy
 clear je pG gW jk
 obtain⟨kW,kT,wR,ey,wH,uE,rH,wQ,wO,wP,rJ,rz,lV⟩:=s1.kS (bb:=b1) (off:=o1) hy1 rfl;have ey:EK aQ _ _ _ b1 (o1+(stripe t.s.trace x.st.length).toNat * 2) [.int .i64 y.held,kW] _ _ _ _:=ey
 (repeat' first|((with_reducible refine bW ?_);refine EK.st_ (ey.ext aD) (by rfl) (by rfl) aX ?_;intro h_ ey k_ n_)|refine vsw ?_|refine ao4 ?_|fail)
 obtain⟨x2,F2,e2,s2,m2⟩:=lV _ {y with held:=-1} rfl ey
 have ht2:x2.tasks[k]? =some t:=by rw[e2,e1];exact ht
 obtain⟨bZ,bY,gF,gD,gU,et,gM,gL,gI,fZ,gT,gP,gQ,gV,fF,dH⟩:=s2.dL (bb:=b9) (off:=o9) ht2 rfl;have et:EK Task _ _ _ b9 (o9+k * 12) [.int .i64 t.op,.int .i64 t.pc,.int .i64 t.s.trace,.int .i64 t.s.id,.int .i64 t.s.start,.int .i64 t.s.fin,.bool t.s.err,bZ,.int .i64 t.trace,.int .i64 t.stamp,bY,.int .i64 t.h] _ _ _ _:=et
 refine EK.st0 et (by rfl) (by rfl) aX ?_
 intro h4 et k4 n4
 obtain⟨x3,F3,e3,s3,m3⟩:=fF h4 kN .aC .aC [] [] et au.aC au.aC Own.nil (by simp)
 (repeat' first|refine vsw ?_|(refine br ?_ ?_<;>first|exact bx|intro _)|((with_reducible refine aY ?_);((first|refine ix ?_|refine ixi ?_|(refine ixg ?_;intro _ _)|(refine ku ?_;intro _ _));first|rintro _ _ _ _ _ ⟨rfl,rfl⟩ _|rintro _ _ _ _ _ ⟨_,rfl,_⟩ _|rintro _ _ _ _ _ ⟨_,_,_,_,rfl,rfl,_,_⟩ _|intro _ _ _ _ _ _ _))|(refine sx ?_;intro _ _)|refine gS ?_|fail)
 subst e3 e2 e1
 exact⟨rfl,_,rfl,rfl,s3.done⟩
end Go.Proofs.YtkdjapahgmflbaaGreat
end
section
set_option linter.unusedSimpArgs false
set_option linter.unusedVariables false
set_option maxHeartbeats 2000000
namespace Go.Proofs.YtkdjapahgmflbaaGreat
open Go Go.Ab
attribute[local irreducible] cZ
section
def Q0 (x0 x1:AV):Prog:=Lf 14 x0 fun a=>Cl JK [a] fun a=>.op (.ext a 0) fun b=>.op (.ext a 1) fun a=>.op (.alloc [.int .i64 0,.int .i64 0,.int .i64 0,.aC]) fun c=>.op (.st 4 c b) fun _=>.op (.una .not a) fun a=>.ite a (Lf 29 x0 fun a=>Ix 12 a x1 fun a=>Sg 1 a (.int .i64 0) fun _=>.fin [.val (.bool true)]) (Lg 0 c fun a=>Lf 14 x0 fun b=>Ln 0 b fun b=>Cl d9 [a,b] fun a=>Lf 14 x0 fun b=>Ix 2 b a fun b=>Lg 0 b fun b=>.op (.bin 0 .neq b (.int .i64 (-1))) fun b=>.ite b (.fin [.val (.bool false)]) (Lf 14 x0 fun b=>Ix 2 b a fun a=>Sg 0 a x1 fun _=>Lf 29 x0 fun a=>Ix 12 a x1 fun a=>Sg 1 a (.int .i64 3) fun _=>Lf 29 x0 fun a=>Lg 0 c fun b=>Ix 12 a x1 fun a=>Sg 8 a b fun _=>Lf 29 x0 fun a=>Lg 1 c fun b=>Ix 12 a x1 fun a=>Sg 9 a b fun _=>.fin [.val (.bool true)]))
theorem ae0 (x0 x1:AV):CC Tryz.prog J9 [x0,x1] (Q0 x0 x1):=cc Tryz.func234 [] (fun r=>if r=5 then[(0,[]),(1,[]),(2,[]),(3,[]),(4,[]),(5,[]),(6,[]),(7,[]),(8,[])] else if r=10 then[(0,[]),(1,[]),(2,[]),(3,[]),(4,[]),(5,[]),(6,[]),(7,[]),(8,[]),(9,[])] else if r=11 then[(0,[]),(1,[]),(2,[]),(3,[]),(4,[]),(5,[]),(6,[]),(7,[]),(8,[]),(9,[])] else[])
end
def Stp (n:Nat) (h:AH) (b:Nat) (F:WF) (o:Option Wld) (v:AV) (h':AH):Prop:=match o with
 |some y=>v= .bool true∧kX n h.n h b F y h'
 |none=>v= .bool false∧Kp h h' (b::F.a)
theorem adS {h:AH} {n b k:Nat} {x:Wld} {V:WV} {F:WF} {t:Task} (w:PW n h b x V F) (ht:x.tasks[k]? =some t) (h1:1≤(x.st.length:Int)) (hs:x.st.length+szs x.st≤67108864):bN Tryz.prog J9 [.ptr b 0,.int .i64 (k:Int)] h (Stp n h b F (qV x k t)):=by
 obtain⟨v0,v1,v2,v3,v4,v5,v6,v7,v8,v9,v10⟩:=V
 have hk:k < x.tasks.length:=(List.getElem?_eq_some_iff.1 ht).1
 have s:=w.ws
 have r1:au h v1 x.st F.f1:=w.r1
 obtain⟨y0,hy0⟩:∃ y0,x.st[0]? =some y0:=⟨x.st[0]'(by omega),List.getElem?_eq_getElem _⟩
 obtain⟨b1,o1,e1⟩:=w.r1.sl hy0;have e1:v1= .sl b1 o1 x.st.length:=e1;subst e1;have l1:b1 < _:=dZ w.r1;obtain⟨b9,o9,e9⟩:=w.r9.sl ht;have e9:v9= .sl b9 o9 x.tasks.length:=e9;subst e9;have l9:b9 < _:=dZ w.r9
 have bk:=bkE w
 refine ae0 _ _ ?_
 unfold Q0
 (repeat' first|refine vsw ?_|(with_reducible refine aW ?_)|fail)
 refine aK (acy (l:=x.st) hs r1) ?_
 rintro _ h2 ⟨e2,_,G,rfl,⟨z,rfl,zq⟩,oG⟩
 have n2:=e2.1
 cases ho:oldest (allT x.st) with
 |none=>
  unfold qV;rw[ho]
  obtain⟨dI,dJ,dU,j6,kG,ek,j5,j4,kH,iT,kF,kD,kE,jT,jk,gW⟩:=s.dL (bb:=b9) (off:=o9) ht rfl;have ek:EK Task _ _ _ b9 (o9+k * 12) [.int .i64 t.op,.int .i64 t.pc,.int .i64 t.s.trace,.int .i64 t.s.id,.int .i64 t.s.start,.int .i64 t.s.fin,.bool t.s.err,dI,.int .i64 t.trace,.int .i64 t.stamp,dJ,.int .i64 t.h] _ _ _ _:=ek
  simp only[Option.isSome_none]
  (repeat' first|((with_reducible refine bW ?_);refine EK.st_ (ek.ext aD) (by rfl) (by rfl) aX ?_;intro h_ ek k_ n_)|refine vsw ?_|refine ao4 ?_|fail)
  obtain⟨x1,F1,e1,s1,m1⟩:=gW _ {t with pc:=0} rfl rfl ek
  subst e1
  exact⟨rfl,_,rfl,rfl,s1.done⟩
 |some o=>
  obtain⟨y,hy⟩:=lu h1 o.id
  have hsb:=iU (t:=o.id) h1
  have hh:iB x o.id=y.held:=Gp hy
  unfold qV;rw[ho]
  obtain⟨kW,kT,wR,ey,wH,uE,rH,wQ,wO,wP,rJ,rz,lV⟩:=s.kS (bb:=b1) (off:=o1) hy rfl;have ey:EK aQ _ _ _ b1 (o1+(stripe o.id x.st.length).toNat * 2) [.int .i64 y.held,kW] _ _ _ _:=ey
  have at1:=ey.at_
  simp only[Option.isSome_some,Option.getD_some]
  by_cases hf:y.held= -1
  ·rw[if_neg (by omega)]
   (repeat' first|((with_reducible refine bW ?_);refine EK.st_ (ey.ext aD) (by rfl) (by rfl) aX ?_;intro h_ ey k_ n_)|refine vsw ?_|refine ao4 ?_|(refine br ?_ ?_<;>first|exact bo|intro _)|((with_reducible refine aA d9 ?_);refine aJ iD ?_)|fail)
   obtain⟨x1,F1,e1,s1,m1⟩:=lV _ {y with held:=k} rfl ey
   have ht1:x1.tasks[k]? =some t:=by rw[e1];exact ht
   obtain⟨dI,dJ,dU,j6,kG,ek,j5,j4,kH,iT,kF,kD,kE,jT,jk,gW⟩:=s1.dL (bb:=b9) (off:=o9) ht1 rfl;have ek:EK Task _ _ _ b9 (o9+k * 12) [.int .i64 t.op,.int .i64 t.pc,.int .i64 t.s.trace,.int .i64 t.s.id,.int .i64 t.s.start,.int .i64 t.s.fin,.bool t.s.err,dI,.int .i64 t.trace,.int .i64 t.stamp,dJ,.int .i64 t.h] _ _ _ _:=ek
   (repeat' first|((with_reducible refine bW ?_);refine EK.st_ (ek.ext aD) (by rfl) (by rfl) aX ?_;intro h_ ek k_ n_)|refine vsw ?_|refine ao4 ?_|fail)
   obtain⟨x2,F2,e2,s2,m2⟩:=gW _ {t with pc:=3,trace:=o.id,stamp:=o.stamp} rfl rfl ek
   have e:x2={x with st:=gy x.st o.id k,tasks:=x.tasks.set k {t with pc:=3,trace:=o.id,stamp:=o.stamp}}:=by
    rw[e2,e1,qC hy]
   rw[e] at s2
   exact⟨rfl,_,rfl,rfl,s2.done⟩
  ·rw[if_pos (by omega)]
   (repeat' first|refine vsw ?_|refine ao4 ?_|(refine br ?_ ?_<;>first|exact bo|intro _)|((with_reducible refine aA d9 ?_);refine aJ iD ?_)|fail)
   exact⟨rfl,_,rfl,rfl,Kp.iA aD⟩
end Go.Proofs.YtkdjapahgmflbaaGreat
end
section
set_option linter.unusedSimpArgs false
set_option linter.unusedVariables false
set_option maxHeartbeats 2000000
namespace Go.Proofs.YtkdjapahgmflbaaGreat
open Go Go.Ab
attribute[local irreducible] cZ
section
def Jp (x0 x1 x2:AV):Prog:=.op (.box x1) fun a=>Lf 14 x0 fun b=>Lg 0 a fun c=>Cl Jq [b,c] fun b=>Sf 14 x0 b fun _=>.op (.bg x0) fun b=>.op (.fad 21 b) fun b=>.op (.ld1 b) fun c=>Ld 4 a fun d=>Cl uS [d] fun d=>.chk (.ld1 b) c (Bn .sub c d fun b=>Sf 21 x0 b fun _=>Lf 20 x0 fun b=>Lg 0 a fun c=>Lg 1 a fun a=>.op (.build [.int .i64 0,.int .i64 0,.bool false] [(0,1,c),(1,1,a),(2,1,x2)]) fun a=>.op (.bg x0) fun c=>.op (.fad 0 c) fun c=>Lg 3 c fun c=>Cl JJ [b,a,c] fun a=>.op (.ext a 0) fun b=>.op (.ext a 1) fun a=>Sf 20 x0 b fun _=>.fin [.val a])
theorem PN (x0 x1 x2:AV):CC Tryz.prog zR [x0,x1,x2] (Jp x0 x1 x2):=cc Tryz.func334 [] (fun r=>if r=1 then[(0,[]),(1,[]),(2,[]),(3,[]),(4,[]),(5,[]),(6,[]),(7,[]),(8,[]),(9,[]),(10,[])] else if r=2 then[(0,[]),(1,[]),(2,[]),(3,[]),(4,[]),(5,[]),(6,[4]),(7,[]),(8,[]),(9,[]),(10,[])] else if r=3 then[(0,[]),(1,[]),(2,[]),(3,[]),(4,[]),(5,[]),(6,[]),(7,[]),(8,[]),(9,[]),(10,[]),(11,[]),(12,[]),(13,[]),(14,[]),(15,[]),(16,[]),(17,[]),(18,[]),(19,[]),(20,[])] else[])
def UO (x0 x1 x2:AV):Prog:=.op (.box x1) fun a=>Lf 14 x0 fun b=>Lg 0 a fun c=>Cl Jz [b,c] fun b=>Sf 14 x0 b fun _=>.op (.bg x0) fun b=>.op (.fad 21 b) fun b=>.op (.ld1 b) fun c=>Ld 4 a fun d=>Cl xB [d] fun d=>.chk (.ld1 b) c (Bn .sub c d fun b=>Sf 21 x0 b fun _=>Lf 20 x0 fun b=>Lg 0 a fun c=>Lg 1 a fun a=>.op (.build [.int .i64 0,.int .i64 0,.bool false] [(0,1,c),(1,1,a),(2,1,x2)]) fun a=>.op (.bg x0) fun c=>.op (.fad 0 c) fun c=>Lg 3 c fun c=>Cl JR [b,a,c] fun a=>.op (.ext a 0) fun b=>.op (.ext a 1) fun a=>Sf 20 x0 b fun _=>.fin [.val a])
theorem aiY (x0 x1 x2:AV):CC Tryz.prog FN [x0,x1,x2] (UO x0 x1 x2):=cc Tryz.func231 [] (fun r=>if r=1 then[(0,[]),(1,[]),(2,[]),(3,[]),(4,[]),(5,[]),(6,[]),(7,[]),(8,[]),(9,[]),(10,[])] else if r=2 then[(0,[]),(1,[]),(2,[]),(3,[]),(4,[]),(5,[3]),(6,[]),(7,[]),(8,[]),(9,[])] else if r=3 then[(0,[]),(1,[]),(2,[]),(3,[]),(4,[]),(5,[]),(6,[]),(7,[]),(8,[]),(9,[]),(10,[]),(11,[]),(12,[]),(13,[]),(14,[]),(15,[]),(16,[]),(17,[]),(18,[]),(19,[]),(20,[])] else[])
end
theorem aa5 {h:AH} {n b:Nat} {x:Wld} {V:WV} {F:WF} {o:Trail} {keep:Bool} {vo:AV} {Fo:List Nat} (w:PW n h b x V F) (ro:au h vo o.spans Fo) (hbo:b ∉ Fo) (hso:Sz.sz o≤67108864) (hs:x.st.length+szs x.st≤67108864) (hc:x.cache.length≤1048576):bN Tryz.prog zR [.ptr b 0,.agg (o.cs vo),.bool keep] h fun v h'=>v= .int .i64 (iX x o keep)∧kX n h.n h b F (mQ x o keep) h':=by
 obtain⟨v0,v1,v2,v3,v4,v5,v6,v7,v8,v9,v10⟩:=V
 have s:=w.ws
 have bk:=bkE w
 have hb:=bk.1
 have r1:au h v1 x.st F.f1:=w.r1
 have r2:au h v2 x.cache F.f2:=w.r2
 have nb2:b ∉ F.f2:=w.n2
 refine PN _ _ _ ?_
 unfold Jp
 (repeat' first|refine vsw ?_|(with_reducible refine aW ?_)|fail)
 refine aK (OP (l:=x.st) (id:=o.id) hs ah) ?_
 rintro u1 h1 ⟨e1,f1,q1,o1⟩
 have n1:=e1.1;(try simp only[aH,aN] at n1)
 (repeat' first|refine vsw ?_|(with_reducible refine aW ?_)|(with_reducible refine vU ?_)|((with_reducible refine aA uS ?_);(refine aJ (JZ hso ah) ?_))|fail)
 refine s.MZ {x with st:=gN x.st o.id,used:=wr (x.used - jK o)} (ah:au _ _ (gN x.st o.id) f1) (bA:Own (h.n+1) _ f1) (by omega) fun x1 hx1 s1=>?_
 refine aK (PS (xs:=x.cache) (v:=⟨o.id,o.stamp,keep⟩) ah hc) ?_
 rintro _ h2 ⟨e2,u2,f2,rfl,q2,o2⟩
 have n2:=e2.1;(try simp only[aH,aN] at n2)
 (repeat' first|refine vsx ?_|(with_reducible refine aW ?_)|fail)
 refine s1.MX {x1 with cache:=(rem x.cache ⟨o.id,o.stamp,keep⟩ x.c.cache).1} (ah:au _ _ (rem x.cache ⟨o.id,o.stamp,keep⟩ x.c.cache).1 f2) (bA:Own h1.n _ f2) aO (fun x2 hx2 s2=>?_) iq (by rw[hx1];rfl)
 (repeat' first|refine vsw ?_|fail)
 rw[hx2,hx1] at s2
 exact⟨rfl,_,rfl,rfl,s2.done⟩
end Go.Proofs.YtkdjapahgmflbaaGreat
end
