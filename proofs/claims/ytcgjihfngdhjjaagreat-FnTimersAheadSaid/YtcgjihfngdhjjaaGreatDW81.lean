import Derived.Test.YtcgjihfngdhjjaaGreatDW60
import Derived.Test.YtcgjihfngdhjjaaGreatDK5
import Derived.Test.YtcgjihfngdhjjaaGreatDAb56
section
set_option linter.unusedSimpArgs false
set_option linter.unusedVariables false
set_option maxHeartbeats 2000000
namespace Go.Proofs.YtcgjihfngdhjjaaGreat
open Go Go.Ab
attribute[local irreducible] dD
section
def Rs (x0 x1 x2 x3:AV):Prog:=Lf 29 x0 fun a=>Ix 12 a x1 fun a=>Ld 12 a fun a=>.op (.alloc ji) fun b=>.op (.st 12 b a) fun _=>Lf 30 x0 fun a=>Lg 11 b fun c=>Ix 20 a c fun a=>Sf 10 a x2 fun _=>Sf 9 a x3 fun _=>Lf 12 x0 fun c=>Sf 18 a c fun _=>Lf 12 x0 fun c=>Sf 19 a c fun _=>.op (.bZ x0) fun c=>.op (.fad 22 c) fun c=>Lg 0 c fun c=>Sf 16 a c fun _=>.op (.bZ x0) fun a=>.op (.fad 14 a) fun a=>.op (.ld1 a) fun c=>.op (.fad 2 b) fun b=>Lg 0 b fun b=>Lf 14 x0 fun d=>Ln 0 d fun d=>Cl fO [b,d] fun b=>.chk (.ld1 a) c (Ix 2 c b fun a=>.op (.fad 0 a) fun a=>.op (.st 1 a (.int .i64 (-1))) fun _=>Lf 29 x0 fun a=>.op (.build ji []) fun b=>Ix 12 a x1 fun a=>.op (.st 12 a b) fun _=>.fin [])
theorem adT (x0 x1 x2 x3:AV):CC Tryz.prog yN [x0,x1,x2,x3] (Rs x0 x1 x2 x3):=cc Tryz.func272 [] (fun r=>if r=1 then[(0,[]),(1,[]),(2,[]),(3,[]),(4,[]),(5,[]),(6,[]),(7,[])] else if r=7 then[(0,[]),(1,[]),(2,[]),(3,[]),(4,[]),(5,[]),(6,[]),(7,[]),(8,[]),(9,[]),(10,[]),(11,[]),(12,[3]),(13,[]),(14,[]),(15,[])] else[])
end
theorem ajz {x:Wld} {k:Nat} {t:Task} {code stamp:Int} {d:aW} {y:aR} (hd:x.aF[t.h.toNat]? =some d) (hy:x.st[(stripe t.s.trace x.st.length).toNat]? =some y):lT x k t code stamp={x with aF:=x.aF.set t.h.toNat {d with code:=code,stamp:=stamp,lin:=x.time,res:=x.time,now:=x.w.now},st:=x.st.set (stripe t.s.trace x.st.length).toNat {y with held:=-1},tasks:=x.tasks.set k dX}:=by
 unfold lT fD;rw[gV hd,gV hy]
theorem Bf {h:AH} {n b k:Nat} {x:Wld} {V:WV} {F:WF} {t:Task} {d:aW} {code stamp:Int} (w:PW n h b x V F) (ht:x.tasks[k]? =some t) (hd:x.aF[t.h.toNat]? =some d) (h0:0≤t.h) (h1:1≤(x.st.length:Int)):bq Tryz.prog yN [.ptr b 0,.int .i64 (k:Int),.int .i64 code,.int .i64 stamp] h fun v h'=>v= .tup []∧qy n h.n h b F (lT x k t code stamp) h':=by
 obtain⟨v0,v1,v2,v3,v4,v5,v6,v7,v8,v9,v10⟩:=V
 obtain⟨y,hy⟩:=kW h1 t.s.trace
 have hsb:=jg (t:=t.s.trace) h1
 have hk:k < x.tasks.length:=(List.getElem?_eq_some_iff.1 ht).1
 have hdl:t.h.toNat < x.aF.length:=(List.getElem?_eq_some_iff.1 hd).1
 rw[ajz hd hy]
 obtain⟨b1,o1,e1⟩:=w.r1.sl hy;have e1:v1= .sl b1 o1 x.st.length:=e1;subst e1;have l1:b1 < _:=iB w.r1;obtain⟨b9,o9,e9⟩:=w.r9.sl ht;have e9:v9= .sl b9 o9 x.tasks.length:=e9;subst e9;have l9:b9 < _:=iB w.r9;obtain⟨b10,o10,e10⟩:=w.r10.sl hd;have e10:v10= .sl b10 o10 x.aF.length:=e10;subst e10;have l10:b10 < _:=iB w.r10
 have bk:=bkE w
 have s:=w.ws
 obtain⟨fZ,fV,jq,tQ,uq,ek,tO,tN,uw,og,um,uh,uj,uy,pX,mV⟩:=s.iJ (bb:=b9) (off:=o9) ht rfl;have ek:EK Task _ _ _ b9 (o9+k * 12) [.int .i64 t.op,.int .i64 t.pc,.int .i64 t.s.trace,.int .i64 t.s.id,.int .i64 t.s.start,.int .i64 t.s.fin,.bool t.s.err,fZ,.int .i64 t.trace,.int .i64 t.stamp,fV,.int .i64 t.h] _ _ _ _:=ek
 have at9:=ek.at_
 obtain⟨uz,IG,Jl,ed,IE,Jm,Ji,Jk,Jh,Jj,Jo,Di,rD⟩:=s.zM (bb:=b10) (off:=o10) hd rfl;have ed:EK aW _ _ _ b10 (o10+t.h.toNat * 20) [.int .i64 d.op,.int .i64 d.task,.int .i64 d.s.trace,.int .i64 d.s.id,.int .i64 d.s.start,.int .i64 d.s.fin,.bool d.s.err,uz,.int .i64 d.trace,.int .i64 d.stamp,.int .i64 d.code,.bool d.keep,.bool d.void,.int .i64 d.took,.int .i64 d.n,.int .i64 d.forgot,.int .i64 d.now,.int .i64 d.inv,.int .i64 d.lin,.int .i64 d.res] _ _ _ _:=ed
 refine adT _ _ _ _ ?_
 unfold Rs
 (repeat' first|((with_reducible refine fC ?_);refine EK.st_ (ed.ext aI) (by rfl) (by rfl) bV ?_;intro h_ ed k_ n_)|refine vsw ?_|refine bP ?_|((with_reducible refine aG fO ?_);refine aQ jd ?_)|fail)
 obtain⟨x1,F1,e1,s1,m1⟩:=rD _ {d with code:=code,stamp:=stamp,lin:=x.time,res:=x.time,now:=x.w.now} rfl ed
 have hy1:x1.st[(stripe t.s.trace x.st.length).toNat]? =some y:=by rw[e1];exact hy
 clear rD Di mV pX
 obtain⟨ug,xO,Jg,ey,IC,DK,DJ,Jf,Jd,Je,DL,Dh,uf⟩:=s1.pU (bb:=b1) (off:=o1) hy1 rfl;have ey:EK aR _ _ _ b1 (o1+(stripe t.s.trace x.st.length).toNat * 2) [.int .i64 y.held,ug] _ _ _ _:=ey
 (repeat' first|((with_reducible refine fC ?_);refine EK.st_ (ey.ext aI) (by rfl) (by rfl) bV ?_;intro h_ ey k_ n_)|refine vsw ?_|refine bP ?_|fail)
 obtain⟨x2,F2,e2,s2,m2⟩:=uf _ {y with held:=-1} rfl ey
 have ht2:x2.tasks[k]? =some t:=by rw[e2,e1];exact ht
 obtain⟨gY,iq,lC,mM,nY,et,mK,nR,lS,lQ,nW,nU,nV,nZ,jX,jy⟩:=s2.iJ (bb:=b9) (off:=o9) ht2 rfl;have et:EK Task _ _ _ b9 (o9+k * 12) [.int .i64 t.op,.int .i64 t.pc,.int .i64 t.s.trace,.int .i64 t.s.id,.int .i64 t.s.start,.int .i64 t.s.fin,.bool t.s.err,gY,.int .i64 t.trace,.int .i64 t.stamp,iq,.int .i64 t.h] _ _ _ _:=et
 refine EK.st0 et (by rfl) (by rfl) bV ?_
 intro h4 et k4 n4
 obtain⟨x3,F3,e3,s3,m3⟩:=jX h4 dX .aA .aA [] [] et ah.aA ah.aA Own.nil (by simp)
 (repeat' first|refine vsw ?_|(refine br ?_ ?_<;>first|exact bx|intro _)|((with_reducible refine bB ?_);((first|refine ix ?_|refine ixi ?_|(refine ixg ?_;intro _ _)|(refine iP ?_;intro _ _));first|rintro _ _ _ _ _ ⟨rfl,rfl⟩ _|rintro _ _ _ _ _ ⟨_,rfl,_⟩ _|rintro _ _ _ _ _ ⟨_,_,_,_,rfl,rfl,_,_⟩ _|intro _ _ _ _ _ _ _))|(refine sx ?_;intro _ _)|refine gS ?_|fail)
 subst e3 e2 e1
 exact⟨rfl,_,rfl,rfl,s3.done⟩
end Go.Proofs.YtcgjihfngdhjjaaGreat
end
section
set_option linter.unusedSimpArgs false
set_option linter.unusedVariables false
set_option maxHeartbeats 2000000
namespace Go.Proofs.YtcgjihfngdhjjaaGreat
open Go Go.Ab
attribute[local irreducible] dD
section
def Qf (x0 x1:AV):Prog:=Lf 14 x0 fun a=>Cl J5 [a] fun a=>.op (.ext a 0) fun b=>.op (.ext a 1) fun a=>.op (.alloc [.int .i64 0,.int .i64 0,.int .i64 0,.aA]) fun c=>.op (.st 4 c b) fun _=>.op (.una .not a) fun a=>.ite a (Lf 29 x0 fun a=>Ix 12 a x1 fun a=>Sg 1 a (.int .i64 0) fun _=>.fin [.val (.bool true)]) (Lg 0 c fun a=>Lf 14 x0 fun b=>Ln 0 b fun b=>Cl fO [a,b] fun a=>Lf 14 x0 fun b=>Ix 2 b a fun b=>Lg 0 b fun b=>.op (.bin 0 .neq b (.int .i64 (-1))) fun b=>.ite b (.fin [.val (.bool false)]) (Lf 14 x0 fun b=>Ix 2 b a fun a=>Sg 0 a x1 fun _=>Lf 29 x0 fun a=>Ix 12 a x1 fun a=>Sg 1 a (.int .i64 3) fun _=>Lf 29 x0 fun a=>Lg 0 c fun b=>Ix 12 a x1 fun a=>Sg 8 a b fun _=>Lf 29 x0 fun a=>Lg 1 c fun b=>Ix 12 a x1 fun a=>Sg 9 a b fun _=>.fin [.val (.bool true)]))
theorem acE (x0 x1:AV):CC Tryz.prog Kj [x0,x1] (Qf x0 x1):=cc Tryz.func268 [] (fun r=>if r=5 then[(0,[]),(1,[]),(2,[]),(3,[]),(4,[]),(5,[]),(6,[]),(7,[]),(8,[])] else if r=10 then[(0,[]),(1,[]),(2,[]),(3,[]),(4,[]),(5,[]),(6,[]),(7,[]),(8,[]),(9,[])] else if r=11 then[(0,[]),(1,[]),(2,[]),(3,[]),(4,[]),(5,[]),(6,[]),(7,[]),(8,[]),(9,[])] else[])
end
def Stp (n:Nat) (h:AH) (b:Nat) (F:WF) (o:Option Wld) (v:AV) (h':AH):Prop:=match o with
 |some y=>v= .bool true∧qy n h.n h b F y h'
 |none=>v= .bool false∧Kp h h' (b::F.a)
theorem ab2 {h:AH} {n b k:Nat} {x:Wld} {V:WV} {F:WF} {t:Task} (w:PW n h b x V F) (ht:x.tasks[k]? =some t) (h1:1≤(x.st.length:Int)) (hs:x.st.length+szs x.st≤67108864):bq Tryz.prog Kj [.ptr b 0,.int .i64 (k:Int)] h (Stp n h b F (pQ x k t)):=by
 obtain⟨v0,v1,v2,v3,v4,v5,v6,v7,v8,v9,v10⟩:=V
 have hk:k < x.tasks.length:=(List.getElem?_eq_some_iff.1 ht).1
 have s:=w.ws
 have r1:ah h v1 x.st F.f1:=w.r1
 obtain⟨y0,hy0⟩:∃ y0,x.st[0]? =some y0:=⟨x.st[0]'(by omega),List.getElem?_eq_getElem _⟩
 obtain⟨b1,o1,e1⟩:=w.r1.sl hy0;have e1:v1= .sl b1 o1 x.st.length:=e1;subst e1;have l1:b1 < _:=iB w.r1;obtain⟨b9,o9,e9⟩:=w.r9.sl ht;have e9:v9= .sl b9 o9 x.tasks.length:=e9;subst e9;have l9:b9 < _:=iB w.r9
 have bk:=bkE w
 refine acE _ _ ?_
 unfold Qf
 (repeat' first|refine vsw ?_|(with_reducible refine bA ?_)|fail)
 refine aL (abd (l:=x.st) hs r1) ?_
 rintro _ h2 ⟨e2,_,G,rfl,⟨z,rfl,zq⟩,oG⟩
 have n2:=e2.1
 cases ho:oldest (allT x.st) with
 |none=>
  unfold pQ;rw[ho]
  obtain⟨fZ,fV,jq,tQ,uq,ek,tO,tN,uw,og,um,uh,uj,uy,pX,mV⟩:=s.iJ (bb:=b9) (off:=o9) ht rfl;have ek:EK Task _ _ _ b9 (o9+k * 12) [.int .i64 t.op,.int .i64 t.pc,.int .i64 t.s.trace,.int .i64 t.s.id,.int .i64 t.s.start,.int .i64 t.s.fin,.bool t.s.err,fZ,.int .i64 t.trace,.int .i64 t.stamp,fV,.int .i64 t.h] _ _ _ _:=ek
  simp only[Option.isSome_none]
  (repeat' first|((with_reducible refine fC ?_);refine EK.st_ (ek.ext aI) (by rfl) (by rfl) bV ?_;intro h_ ek k_ n_)|refine vsw ?_|refine bP ?_|fail)
  obtain⟨x1,F1,e1,s1,m1⟩:=mV _ {t with pc:=0} rfl rfl ek
  subst e1
  exact⟨rfl,_,rfl,rfl,s1.done⟩
 |some o=>
  obtain⟨y,hy⟩:=kW h1 o.id
  have hsb:=jg (t:=o.id) h1
  have hh:ku x o.id=y.held:=GJ hy
  unfold pQ;rw[ho]
  obtain⟨ug,xO,Jg,ey,IC,DK,DJ,Jf,Jd,Je,DL,Dh,uf⟩:=s.pU (bb:=b1) (off:=o1) hy rfl;have ey:EK aR _ _ _ b1 (o1+(stripe o.id x.st.length).toNat * 2) [.int .i64 y.held,ug] _ _ _ _:=ey
  have at1:=ey.at_
  simp only[Option.isSome_some,Option.getD_some]
  by_cases hf:y.held= -1
  ·rw[if_neg (by omega)]
   (repeat' first|((with_reducible refine fC ?_);refine EK.st_ (ey.ext aI) (by rfl) (by rfl) bV ?_;intro h_ ey k_ n_)|refine vsw ?_|refine bP ?_|(refine br ?_ ?_<;>first|exact bo|intro _)|((with_reducible refine aG fO ?_);refine aQ jd ?_)|fail)
   obtain⟨x1,F1,e1,s1,m1⟩:=uf _ {y with held:=k} rfl ey
   have ht1:x1.tasks[k]? =some t:=by rw[e1];exact ht
   obtain⟨fZ,fV,jq,tQ,uq,ek,tO,tN,uw,og,um,uh,uj,uy,pX,mV⟩:=s1.iJ (bb:=b9) (off:=o9) ht1 rfl;have ek:EK Task _ _ _ b9 (o9+k * 12) [.int .i64 t.op,.int .i64 t.pc,.int .i64 t.s.trace,.int .i64 t.s.id,.int .i64 t.s.start,.int .i64 t.s.fin,.bool t.s.err,fZ,.int .i64 t.trace,.int .i64 t.stamp,fV,.int .i64 t.h] _ _ _ _:=ek
   (repeat' first|((with_reducible refine fC ?_);refine EK.st_ (ek.ext aI) (by rfl) (by rfl) bV ?_;intro h_ ek k_ n_)|refine vsw ?_|refine bP ?_|fail)
   obtain⟨x2,F2,e2,s2,m2⟩:=mV _ {t with pc:=3,trace:=o.id,stamp:=o.stamp} rfl rfl ek
   have e:x2={x with st:=fD x.st o.id k,tasks:=x.tasks.set k {t with pc:=3,trace:=o.id,stamp:=o.stamp}}:=by
    rw[e2,e1,oP hy]
   rw[e] at s2
   exact⟨rfl,_,rfl,rfl,s2.done⟩
  ·rw[if_pos (by omega)]
   (repeat' first|refine vsw ?_|refine bP ?_|(refine br ?_ ?_<;>first|exact bo|intro _)|((with_reducible refine aG fO ?_);refine aQ jd ?_)|fail)
   exact⟨rfl,_,rfl,rfl,Kp.gK aI⟩
end Go.Proofs.YtcgjihfngdhjjaaGreat
end
section
set_option linter.unusedSimpArgs false
set_option linter.unusedVariables false
set_option maxHeartbeats 2000000
namespace Go.Proofs.YtcgjihfngdhjjaaGreat
open Go Go.Ab
attribute[local irreducible] dD
section
def JL (x0 x1 x2:AV):Prog:=.op (.box x1) fun a=>Lf 14 x0 fun b=>Lg 0 a fun c=>Cl JM [b,c] fun b=>Sf 14 x0 b fun _=>.op (.bZ x0) fun b=>.op (.fad 21 b) fun b=>.op (.ld1 b) fun c=>Ld 4 a fun d=>Cl Ba [d] fun d=>.chk (.ld1 b) c (Bn .sub c d fun b=>Sf 21 x0 b fun _=>Lf 20 x0 fun b=>Lg 0 a fun c=>Lg 1 a fun a=>.op (.build [.int .i64 0,.int .i64 0,.bool false] [(0,1,c),(1,1,a),(2,1,x2)]) fun a=>.op (.bZ x0) fun c=>.op (.fad 0 c) fun c=>Lg 3 c fun c=>Cl J3 [b,a,c] fun a=>.op (.ext a 0) fun b=>.op (.ext a 1) fun a=>Sf 20 x0 b fun _=>.fin [.val a])
theorem OW (x0 x1 x2:AV):CC Tryz.prog AL [x0,x1,x2] (JL x0 x1 x2):=cc Tryz.func278 [] (fun r=>if r=1 then[(0,[]),(1,[]),(2,[]),(3,[]),(4,[]),(5,[]),(6,[]),(7,[]),(8,[]),(9,[]),(10,[])] else if r=2 then[(0,[]),(1,[]),(2,[]),(3,[]),(4,[]),(5,[]),(6,[4]),(7,[]),(8,[]),(9,[]),(10,[])] else if r=3 then[(0,[]),(1,[]),(2,[]),(3,[]),(4,[]),(5,[]),(6,[]),(7,[]),(8,[]),(9,[]),(10,[]),(11,[]),(12,[]),(13,[]),(14,[]),(15,[]),(16,[]),(17,[]),(18,[]),(19,[]),(20,[])] else[])
end
theorem aaD {h:AH} {n b:Nat} {x:Wld} {V:WV} {F:WF} {o:Trail} {keep:Bool} {vo:AV} {Fo:List Nat} (w:PW n h b x V F) (ro:ah h vo o.spans Fo) (hbo:b ∉ Fo) (hso:Sz.sz o≤67108864) (hs:x.st.length+szs x.st≤67108864) (hc:x.cache.length≤1048576):bq Tryz.prog AL [.ptr b 0,.agg (o.cs vo),.bool keep] h fun v h'=>v= .int .i64 (ko x o keep)∧qy n h.n h b F (oQ x o keep) h':=by
 obtain⟨v0,v1,v2,v3,v4,v5,v6,v7,v8,v9,v10⟩:=V
 have s:=w.ws
 have bk:=bkE w
 have hb:=bk.1
 have r1:ah h v1 x.st F.f1:=w.r1
 have r2:ah h v2 x.cache F.f2:=w.r2
 have nb2:b ∉ F.f2:=w.n2
 refine OW _ _ _ ?_
 unfold JL
 (repeat' first|refine vsw ?_|(with_reducible refine bA ?_)|fail)
 refine aL (Ox (l:=x.st) (id:=o.id) hs aB) ?_
 rintro u1 h1 ⟨e1,f1,q1,o1⟩
 have n1:=e1.1;(try simp only[aJ,aN] at n1)
 (repeat' first|refine vsw ?_|(with_reducible refine bA ?_)|(with_reducible refine Mj ?_)|((with_reducible refine aG Ba ?_);(refine aQ (PX hso aB) ?_))|fail)
 refine s.Xw {x with st:=fU x.st o.id,used:=wr (x.used - dW o)} (aB:ah _ _ (fU x.st o.id) f1) (aY:Own (h.n+1) _ f1) (by omega) fun x1 hx1 s1=>?_
 refine aL (OY (xs:=x.cache) (v:=⟨o.id,o.stamp,keep⟩) aB hc) ?_
 rintro _ h2 ⟨e2,u2,f2,rfl,q2,o2⟩
 have n2:=e2.1;(try simp only[aJ,aN] at n2)
 (repeat' first|refine vsx ?_|(with_reducible refine bA ?_)|fail)
 refine s1.Xv {x1 with cache:=(rem x.cache ⟨o.id,o.stamp,keep⟩ x.c.cache).1} (aB:ah _ _ (rem x.cache ⟨o.id,o.stamp,keep⟩ x.c.cache).1 f2) (aY:Own h1.n _ f2) aV (fun x2 hx2 s2=>?_) jc (by rw[hx1];rfl)
 (repeat' first|refine vsw ?_|fail)
 rw[hx2,hx1] at s2
 exact⟨rfl,_,rfl,rfl,s2.done⟩
end Go.Proofs.YtcgjihfngdhjjaaGreat
end
