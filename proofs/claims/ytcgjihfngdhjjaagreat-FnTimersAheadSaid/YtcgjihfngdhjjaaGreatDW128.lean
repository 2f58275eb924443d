import Derived.Test.YtcgjihfngdhjjaaGreatDW78
import Derived.Test.YtcgjihfngdhjjaaGreatDKW2
import Derived.Test.YtcgjihfngdhjjaaGreatDW89
import Derived.Test.YtcgjihfngdhjjaaGreatDW88
import Derived.Test.YtcgjihfngdhjjaaGreatDW87
import Derived.Test.YtcgjihfngdhjjaaGreatDW94
import Derived.Test.YtcgjihfngdhjjaaGreatDW75
import Derived.Test.YtcgjihfngdhjjaaGreatDW109
import Derived.Test.YtcgjihfngdhjjaaGreatDK5
import Derived.Test.YtcgjihfngdhjjaaGreatDW121
section
set_option linter.unusedSimpArgs false
set_option linter.unusedVariables false
set_option maxHeartbeats 2000000
set_option maxRecDepth 20000
namespace Go.Proofs.YtcgjihfngdhjjaaGreat
open Go Go.Ab Go.RowKit
attribute[local irreducible] dD
section
end
section
variable{P:Program} {f:FuncId} {h H g:AH} {x y:Wld} {cs:List AV} {F:List Nat}
end
theorem WI.Xe {x:Wld} (h:WI x):x.cache.length≤1048576:=by
 have h1:=h.cache.2;have h2:=h.conf;unfold nI at h2;omega
end Go.Proofs.YtcgjihfngdhjjaaGreat
end
section
set_option linter.unusedSimpArgs false
set_option linter.unusedVariables false
set_option maxHeartbeats 4000000
set_option maxRecDepth 20000
namespace Go.Proofs.YtcgjihfngdhjjaaGreat
open Go Go.Ab Go.RowKit
attribute[local irreducible] dD
section
def Qc (x0 x1:AV):Prog:=Lf 29 x0 fun a=>Ix 12 a x1 fun a=>Lg 1 a fun a=>Bn .eql a (.int .i64 0) fun b=>.scope (.ite b (Lf 29 x0 fun a=>Ix 12 a x1 fun a=>Lg 8 a fun a=>Lf 14 x0 fun b=>Ln 0 b fun b=>Cl fO [a,b] fun a=>Lf 14 x0 fun b=>Ix 2 b a fun b=>Lg 0 b fun b=>.op (.bin 0 .neq b (.int .i64 (-1))) fun b=>.ite b (.fin [.val (.bool false)]) (Lf 14 x0 fun b=>Ix 2 b a fun a=>Sg 0 a x1 fun _=>Lf 29 x0 fun a=>Ix 12 a x1 fun a=>Sg 1 a (.int .i64 1) fun _=>.leaf 0 [])) (Bn .eql a (.int .i64 1) fun b=>.scope (.ite b (Lf 15 x0 fun a=>.op (.bin 0 .neq a (.int .i64 (-1))) fun a=>.ite a (.fin [.val (.bool false)]) (Sf 15 x0 x1 fun _=>Lf 29 x0 fun a=>Ix 12 a x1 fun a=>Sg 1 a (.int .i64 2) fun _=>.leaf 0 [])) (Bn .eql a (.int .i64 2) fun a=>.scope (.ite a (Cl KD [x0,x1] fun _=>.leaf 0 []) (Cl Kh [x0,x1] fun a=>.op (.una .not a) fun a=>.ite a (.fin [.val (.bool false)]) (.leaf 0 []))) (fun _=>.leaf 0 []) fun a b=>aC a 1 (.leaf 1 b) .bad)) (fun _=>.leaf 0 []) fun a b=>aC a 1 (.leaf 1 b) .bad)) (fun _=>Lf 12 x0 fun a=>Bn .add a (.int .i64 1) fun a=>Sf 12 x0 a fun _=>.fin [.val (.bool true)]) fun a b=>aC a 1 (.leaf 1 b) .bad
theorem acB (x0 x1:AV):CC Tryz.prog Kg [x0,x1] (Qc x0 x1):=cc Tryz.func258 [0] (fun r=>if r=5 then[(0,[]),(1,[]),(2,[]),(3,[]),(4,[]),(5,[]),(6,[]),(7,[]),(8,[]),(9,[]),(10,[]),(11,[]),(12,[]),(13,[]),(14,[])] else[])
end
theorem abZ {h:AH} {n b k:Nat} {x:Wld} {V:WV} {F:WF} {t:Task} {d:aW} (w:PW n h b x V F) (ht:x.tasks[k]? =some t) (hd:x.aF[t.h.toNat]? =some d) (h0:0≤t.h) (h1:1≤(x.st.length:Int)) (hs:Sz.sz x≤33554432) (hc:x.cache.length≤1048576) (hp:0≤t.pc∧t.pc≤3) (hh:t.pc=3→t.hand≠[]):bq Tryz.prog Kg [.ptr b 0,.int .i64 (k:Int)] h (Stp n h b F ((jm x k t).map cB)):=by
 obtain⟨v0,v1,v2,v3,v4,v5,v6,v7,v8,v9,v10⟩:=V
 have hk:k < x.tasks.length:=(List.getElem?_eq_some_iff.1 ht).1
 have s:=w.ws
 obtain⟨y,hy⟩:=kW h1 t.trace
 have hsb:=jg (t:=t.trace) h1
 have hhe:ku x t.trace=y.held:=GJ hy
 obtain⟨b1,o1,e1⟩:=w.r1.sl hy;have e1:v1= .sl b1 o1 x.st.length:=e1;subst e1;have l1:b1 < _:=iB w.r1;obtain⟨b9,o9,e9⟩:=w.r9.sl ht;have e9:v9= .sl b9 o9 x.tasks.length:=e9;subst e9;have l9:b9 < _:=iB w.r9
 have bk:=bkE w
 have hb:=bk.1
 obtain⟨fZ,fV,jq,tQ,uq,ek,tO,tN,uw,og,um,uh,uj,uy,pX,mV⟩:=s.iJ (bb:=b9) (off:=o9) ht rfl;have ek:EK Task _ _ _ b9 (o9+k * 12) [.int .i64 t.op,.int .i64 t.pc,.int .i64 t.s.trace,.int .i64 t.s.id,.int .i64 t.s.start,.int .i64 t.s.fin,.bool t.s.err,fZ,.int .i64 t.trace,.int .i64 t.stamp,fV,.int .i64 t.h] _ _ _ _:=ek
 have at9:=ek.at_
 refine acB _ _ ?_
 unfold Qc
 have hcs:t.pc=0∨t.pc=1∨t.pc=2∨t.pc=3:=by omega
 rcases hcs with hp|hp|hp|hp
 ·have e:jm x k t=if ku x t.trace≠-1 then none else some {x with st:=fD x.st t.trace k,tasks:=x.tasks.set k {t with pc:=1}}:=by unfold jm;rw[if_pos hp]
  rw[e]
  obtain⟨ug,xO,Jg,ey,IC,DK,DJ,Jf,Jd,Je,DL,Dh,uf⟩:=s.pU (bb:=b1) (off:=o1) hy rfl;have ey:EK aR _ _ _ b1 (o1+(stripe t.trace x.st.length).toNat * 2) [.int .i64 y.held,ug] _ _ _ _:=ey
  have at1:=ey.at_
  by_cases hf:y.held= -1
  ·rw[if_neg (by omega)]
   (repeat' first|((with_reducible refine fC ?_);refine EK.st_ (ey.ext aI) (by rfl) (by rfl) bV ?_;intro h_ ey k_ n_)|refine vsx ?_|refine bP ?_|(refine br ?_ ?_<;>first|exact bo|intro _)|((with_reducible refine aG fO ?_);refine aQ jd ?_)|fail)
   all_goals try(exfalso;omega)
   obtain⟨x1,F1,e1,s1,m1⟩:=uf _ {y with held:=k} rfl ey
   have ht1:x1.tasks[k]? =some t:=by rw[e1];exact ht
   obtain⟨gY,iq,lC,mM,nY,et,mK,nR,lS,lQ,nW,nU,nV,nZ,jX,jy⟩:=s1.iJ (bb:=b9) (off:=o9) ht1 rfl;have et:EK Task _ _ _ b9 (o9+k * 12) [.int .i64 t.op,.int .i64 t.pc,.int .i64 t.s.trace,.int .i64 t.s.id,.int .i64 t.s.start,.int .i64 t.s.fin,.bool t.s.err,gY,.int .i64 t.trace,.int .i64 t.stamp,iq,.int .i64 t.h] _ _ _ _:=et
   (repeat' first|((with_reducible refine fC ?_);refine EK.st_ (et.ext aI) (by rfl) (by rfl) bV ?_;intro h_ et k_ n_)|refine vsx ?_|(with_reducible refine bA ?_)|fail)
   obtain⟨x2,F2,e2,s2,m2⟩:=jy _ {t with pc:=1} rfl rfl et
   have bk2:=bkE s2.w
   have hb2:=bk2.1
   clear bk at9 at1
   (repeat' first|(with_reducible refine gQ ?_)|refine vsx ?_|(with_reducible refine bA ?_)|fail)
   refine s2.jv (cB x2) (fun x3 e3 s3=>?_) jc (by rw[e2,e1];rfl)
   (repeat' first|refine vsw ?_|fail)
   have e:x3=cB {x with st:=fD x.st t.trace k,tasks:=x.tasks.set k {t with pc:=1}}:=by rw[e3,e2,e1,oP hy]
   rw[e] at s3
   exact⟨rfl,_,rfl,rfl,s3.done⟩
  ·rw[if_pos (by omega)]
   (repeat' first|refine vsw ?_|refine bP ?_|(refine br ?_ ?_<;>first|exact bo|intro _)|((with_reducible refine aG fO ?_);refine aQ jd ?_)|fail)
   all_goals try(exfalso;omega)
   exact⟨rfl,_,rfl,rfl,Kp.gK aI⟩
 ·have e:jm x k t=if x.bg≠-1 then none else some {x with bg:=k,tasks:=x.tasks.set k {t with pc:=2}}:=by unfold jm;rw[if_neg (by omega),if_pos hp]
  rw[e]
  by_cases hf:x.bg= -1
  ·rw[if_neg (by omega)]
   (repeat' first|refine vsx ?_|refine bP ?_|(refine br ?_ ?_<;>first|exact bo|intro _)|fail)
   all_goals try(exfalso;omega)
   refine s.jv {x with bg:=(k:Int)} (fun x1 e1 s1=>?_) jc (by rfl)
   have ht1:x1.tasks[k]? =some t:=by rw[e1];exact ht
   obtain⟨gY,iq,lC,mM,nY,et,mK,nR,lS,lQ,nW,nU,nV,nZ,jX,jy⟩:=s1.iJ (bb:=b9) (off:=o9) ht1 rfl;have et:EK Task _ _ _ b9 (o9+k * 12) [.int .i64 t.op,.int .i64 t.pc,.int .i64 t.s.trace,.int .i64 t.s.id,.int .i64 t.s.start,.int .i64 t.s.fin,.bool t.s.err,gY,.int .i64 t.trace,.int .i64 t.stamp,iq,.int .i64 t.h] _ _ _ _:=et
   (repeat' first|((with_reducible refine fC ?_);refine EK.st_ (et.ext aI) (by rfl) (by rfl) bV ?_;intro h_ et k_ n_)|refine vsx ?_|(with_reducible refine bA ?_)|fail)
   obtain⟨x2,F2,e2,s2,m2⟩:=jy _ {t with pc:=2} rfl rfl et
   have bk2:=bkE s2.w
   have hb2:=bk2.1
   clear bk at9
   (repeat' first|(with_reducible refine gQ ?_)|refine vsx ?_|(with_reducible refine bA ?_)|fail)
   refine s2.jv (cB x2) (fun x3 e3 s3=>?_) jc (by rw[e2,e1];rfl)
   (repeat' first|refine vsw ?_|fail)
   have e:x3=cB {x with bg:=(k:Int),tasks:=x.tasks.set k {t with pc:=2}}:=by rw[e3,e2,e1]
   rw[e] at s3
   exact⟨rfl,_,rfl,rfl,s3.done⟩
  ·rw[if_pos (by omega)]
   (repeat' first|refine vsw ?_|refine bP ?_|(refine br ?_ ?_<;>first|exact bo|intro _)|fail)
   all_goals try(exfalso;omega)
   exact⟨rfl,_,rfl,rfl,Kp.gK aI⟩
 ·have e:jm x k t=some (kG x k t):=by unfold jm;rw[if_neg (by omega),if_neg (by omega),if_pos hp]
  rw[e]
  (repeat' first|refine vsx ?_|refine bP ?_|(refine br ?_ ?_<;>first|exact bo|intro _)|fail)
  all_goals try(exfalso;omega)
  refine aL (adk w ht hd h0 h1 hs hc) ?_
  rintro _ h2 ⟨rfl,W⟩
  obtain⟨V2,F2,s2,-⟩:=s.call W
  obtain⟨z,hz,s2⟩:=s2.gen
  obtain⟨v0,v1,v2,v3,v4,v5,v6,v7,v8,v9,v10⟩:=V2
  have bk2:=bkE s2.w
  have hb2:=bk2.1
  (repeat' first|(with_reducible refine gQ ?_)|refine vsx ?_|(with_reducible refine bA ?_)|fail)
  refine s2.jv (cB z) (fun x3 e3 s3=>?_)
  (repeat' first|refine vsw ?_|fail)
  subst e3
  subst hz
  exact⟨rfl,_,rfl,rfl,s3.done⟩
 ·have e:jm x k t=pR x k t:=by unfold jm;rw[if_neg (by omega),if_neg (by omega),if_neg (by omega)]
  rw[e]
  obtain⟨y,ys,hyy⟩:∃ y ys,t.hand=y::ys:=by
   cases hq:t.hand with
   |nil=>exact absurd hq (hh hp)
   |cons a l=>exact⟨a,l,rfl⟩
  (repeat' first|refine vsx ?_|refine bP ?_|(refine br ?_ ?_<;>first|exact bo|intro _)|fail)
  all_goals try(exfalso;omega)
  refine aL (ab0 w ht hd h0 hyy hs) ?_
  intro v2 h2 hst
  cases hL:pR x k t with
  |none=>
   rw[hL] at hst
   obtain⟨rfl,kk⟩:=hst
   (repeat' first|refine vsw ?_|fail)
   exact⟨rfl,_,rfl,rfl,kk⟩
  |some z=>
   rw[hL] at hst
   obtain⟨rfl,W⟩:=hst
   obtain⟨V2,F2,s2,-⟩:=s.call W
   obtain⟨v0,v1,v2,v3,v4,v5,v6,v7,v8,v9,v10⟩:=V2
   have bk2:=bkE s2.w
   have hb2:=bk2.1
   (repeat' first|(with_reducible refine gQ ?_)|refine vsx ?_|(with_reducible refine bA ?_)|fail)
   refine s2.jv (cB z) (fun x3 e3 s3=>?_)
   (repeat' first|refine vsw ?_|fail)
   subst e3
   exact⟨rfl,_,rfl,rfl,s3.done⟩
end Go.Proofs.YtcgjihfngdhjjaaGreat
end
section
set_option linter.unusedSimpArgs false
set_option linter.unusedVariables false
set_option maxHeartbeats 4000000
set_option maxRecDepth 20000
namespace Go.Proofs.YtcgjihfngdhjjaaGreat
open Go Go.Ab Go.RowKit
attribute[local irreducible] dD
section
def Sw (x0 x1:AV):Prog:=Lf 29 x0 fun a=>Ix 12 a x1 fun a=>Lg 0 a fun a=>Bn .eql a (.int .i64 1) fun b=>.ite b (Cl Ki [x0,x1] fun a=>.fin [.val a]) (Bn .eql a (.int .i64 2) fun a=>.ite a (Cl Kg [x0,x1] fun a=>.fin [.val a]) (Bn .lss x1 (.int .i64 3) fun a=>.gop a false (.mv x0) fun b=>.gop a false (.bZ b) fun b=>Gf a false 26 b fun b=>.gop a false (.len 0 b) fun b=>.gop a false (.bin 0 .eql b (.int .i64 0)) fun b=>Pk a (.bool true) b fun a=>.ite a (.fin [.val (.bool false)]) (Cl JY [x0,x1] fun _=>.fin [.val (.bool true)])))
theorem aeQ (x0 x1:AV):CC Tryz.prog KL [x0,x1] (Sw x0 x1):=cc Tryz.func230 [0,1] (fun _=>[])
end
theorem aeu {h:AH} {n b k:Nat} {x:Wld} {V:WV} {F:WF} {t:Task} (w:PW n h b x V F) (hI:WI x) (ht:x.tasks[k]? =some t) (hs:Sz.sz x≤33554432):bq Tryz.prog KL [.ptr b 0,.int .i64 (k:Int)] h (Stp n h b F (qR x k t)):=by
 have w0:=w
 obtain⟨v0,v1,v2,v3,v4,v5,v6,v7,v8,v9,v10⟩:=V
 have hk:k < x.tasks.length:=(List.getElem?_eq_some_iff.1 ht).1
 have s:=w.ws
 have r6:ah h v6 x.due F.f6:=w.r6
 obtain⟨b9,o9,e9⟩:=w.r9.sl ht;have e9:v9= .sl b9 o9 x.tasks.length:=e9;subst e9;have l9:b9 < _:=iB w.r9
 have bk:=bkE w
 have hb:=bk.1
 have hnb:n≤h.n:=by have:=w.nb;omega
 obtain⟨fZ,fV,jq,tQ,uq,ek,tO,tN,uw,og,um,uh,uj,uy,pX,mV⟩:=s.iJ (bb:=b9) (off:=o9) ht rfl;have ek:EK Task _ _ _ b9 (o9+k * 12) [.int .i64 t.op,.int .i64 t.pc,.int .i64 t.s.trace,.int .i64 t.s.id,.int .i64 t.s.start,.int .i64 t.s.fin,.bool t.s.err,fZ,.int .i64 t.trace,.int .i64 t.stamp,fV,.int .i64 t.h] _ _ _ _:=ek
 have at9:=ek.at_
 have htk:=(hI.tasks k t ht).1.1
 refine aeQ _ _ ?_
 unfold Sw
 by_cases h1:t.op=1
 ·have e:qR x k t=(jl x k t).map cB:=by unfold qR;rw[if_pos h1]
  obtain⟨d,hd,-,-⟩:=hI.own ht (by omega)
  rw[e]
  (repeat' first|refine vsx ?_|refine bP ?_|(refine br ?_ ?_<;>first|exact bo|intro _)|fail)
  all_goals try(exfalso;omega)
  refine aL (ab1 (t:=t) (d:=d) w ht hd htk.1 hI.n1 hs hI.Xe htk.2.1) ?_
  intro v2 h2 hst
  cases hL:(jl x k t).map cB with
  |none=>
   rw[hL] at hst
   obtain⟨rfl,kk⟩:=hst
   (repeat' first|refine vsw ?_|fail)
   exact⟨rfl,_,rfl,rfl,kk⟩
  |some y=>
   rw[hL] at hst
   obtain⟨rfl,W⟩:=hst
   (repeat' first|refine vsw ?_|fail)
   exact⟨rfl,_,rfl,rfl,W⟩
 ·by_cases h2:t.op=2
  ·have e:qR x k t=(jm x k t).map cB:=by unfold qR;rw[if_neg h1,if_pos h2]
   have hT:=task2 hI ht h2
   obtain⟨d,hd,-,-⟩:=hI.own ht (by omega)
   rw[e]
   (repeat' first|refine vsx ?_|refine bP ?_|(refine br ?_ ?_<;>first|exact bo|intro _)|fail)
   all_goals try(exfalso;omega)
   refine aL (abZ (t:=t) (d:=d) w ht hd htk.1 hI.n1 hs hI.Xe htk.2.1 (fun q hn=>by have:=hT.2.2.1.2.1 q;rw[hn] at this;simp at this)) ?_
   intro v2 h2 hst
   cases hL:(jm x k t).map cB with
   |none=>
    rw[hL] at hst
    obtain⟨rfl,kk⟩:=hst
    (repeat' first|refine vsw ?_|fail)
    exact⟨rfl,_,rfl,rfl,kk⟩
   |some y=>
    rw[hL] at hst
    obtain⟨rfl,W⟩:=hst
    (repeat' first|refine vsw ?_|fail)
    exact⟨rfl,_,rfl,rfl,W⟩
  ·have e:qR x k t=if(k:Int) < 3∨x.due.length=0 then none else some (mE x k):=by unfold qR;rw[if_neg h1,if_neg h2]
   rw[e]
   by_cases hf:(k:Int) < 3∨x.due.length=0
   ·rw[if_pos hf]
    (repeat' first|refine vsx ?_|refine bP ?_|(refine br ?_ ?_<;>first|exact bo|intro _)|fail)
    all_goals try(exfalso;omega)
    all_goals
     (repeat' first|refine vsw ?_|fail)
     exact⟨rfl,_,rfl,rfl,Kp.gK aI⟩
   ·rw[if_neg hf]
    obtain⟨td,rest,hd⟩:∃ td rest,x.due=td::rest:=by
     cases hq:x.due with
     |nil=>rw[hq] at hf;simp at hf
     |cons a l=>exact⟨a,l,rfl⟩
    (repeat' first|refine vsx ?_|refine bP ?_|(refine br ?_ ?_<;>first|exact bo|intro _)|fail)
    all_goals try(exfalso;omega)
    refine aL (aa8 w hnb hd hk (by omega)) ?_
    rintro _ h2 ⟨rfl,W⟩
    (repeat' first|refine vsw ?_|fail)
    exact⟨rfl,_,rfl,rfl,W⟩
section
variable{P:Program} {h H g:AH} {y:Wld}
end
end Go.Proofs.YtcgjihfngdhjjaaGreat
end
