import Derived.Test.YtkdjapahgmflbaaGreatDW95
import Derived.Test.YtkdjapahgmflbaaGreatDW75
import Derived.Test.YtkdjapahgmflbaaGreatDW90
import Derived.Test.YtkdjapahgmflbaaGreatDW105
import Derived.Test.YtkdjapahgmflbaaGreatDW109
section
set_option linter.unusedSimpArgs false
set_option linter.unusedVariables false
set_option maxHeartbeats 2000000
namespace Go.Proofs.YtkdjapahgmflbaaGreat
open Go Go.Ab
theorem xX {k:Nat} {st st':List aQ} {tr:Int} (h1:1≤(st.length:Int)) (hl:st'.length=st.length) (hst:∀ (i:Nat) (s':aQ),st'[i]? =some s'→∃ s,st[i]? =some s∧s'.held=s.held) (hP:∀ (i:Nat) (s:aQ),st[i]? =some s→(s.held=(k:Int)↔(i:Int)=stripe tr st.length)):mG k st'=gy st' tr (-1):=by
 have h1':1≤(st'.length:Int):=by rw[hl];exact h1
 obtain⟨y,hy⟩:=lu h1' tr
 have hb:=iU (t:=tr) h1'
 rw[qC hy]
 refine List.ext_getElem? fun i=>?_
 unfold mG
 rw[List.getElem?_map,List.getElem?_set]
 cases hi:st'[i]? with
 |none=>
  have:=List.getElem?_eq_none_iff.1 hi
  rw[if_neg (by omega)];rfl
 |some s'=>
  obtain⟨s,hs,he⟩:=hst i s' hi
  have hp:=hP i s hs
  have hil:=(List.getElem?_eq_some_iff.1 hi).1
  show some (mI k s')=_
  split
  ·rename_i e
   have hsy:s'=y:=by rw[e] at hy;rw[hi] at hy;cases hy;rfl
   rw[if_pos (by omega)]
   have:s'.held=(k:Int):=by rw[he];exact hp.2 (by rw[←hl];omega)
   unfold mI;rw[if_pos this,hsy]
  ·rename_i e
   have: ¬ s'.held=(k:Int):=by
    rw[he];intro q;have:=hp.1 q;rw[←hl] at this;omega
   unfold mI;rw[if_neg this]
section
variable{x:Wld} {k:Nat} {t:Task}
theorem yI (h:WI x) (ht:x.tasks[k]? =some t) {tr:Int} (hh:eP t x.st.length=stripe tr x.st.length):∀ (i:Nat) (s:aQ),x.st[i]? =some s→(s.held=(k:Int)↔(i:Int)=stripe tr x.st.length):=fun i s hs=>by
 have:=(h.fM.1 i s hs).2 k t ht
 rw[hh] at this
 constructor
 ·intro q;exact(this.2 q).symm
 ·intro q;exact this.1 q.symm
theorem H6 {z:Wld} (h:WI x) (ht:x.tasks[k]? =some t) (hh:eP t x.st.length=stripe t.s.trace x.st.length) {code stamp:Int} (hl:z.st.length=x.st.length) (hst:∀ (i:Nat) (s':aQ),z.st[i]? =some s'→∃ s,x.st[i]? =some s∧s'.held=s.held):oq z k t code stamp=om z k t code stamp:=by
 unfold oq om
 rw[xX (h.st.1.1) hl hst (yI h ht hh)]
theorem xW {l:List aQ}:∀ (i:Nat) (s':aQ),l[i]? =some s'→∃ s,l[i]? =some s∧s'.held=s.held:=fun i s h=>⟨s,h,rfl⟩
theorem alg (h:WI x) (ht:x.tasks[k]? =some t) (hop:t.op=1) (hpc:t.pc=1):Ch x k t=lookW x k t:=by
 have hh:eP t x.st.length=stripe t.s.trace x.st.length:=aj3 h.st.1.1 hop hpc
 unfold Ch lookW
 rw[H6 h ht hh rfl xW,H6 h ht hh rfl xW,H6 (z:={x with queue:=x.queue++[⟨(vOf x.cache t.s.trace).1.stamp,t.s⟩]}) h ht hh rfl xW]
 have e1:mG k x.st=gy x.st t.s.trace (-1):=xX h.st.1.1 rfl xW (yI h ht hh)
 have hlen:(jQ x t).st.length=x.st.length:=by unfold jQ;exact Xh
 have e2:oq (jQ x t) k t 1 (jA x t)=om (jQ x t) k t 1 (jA x t):=by
  refine H6 h ht hh hlen fun i s' hs'=>?_
  obtain⟨y,hy⟩:=lu h.st.1.1 t.s.trace
  have e:(jQ x t).st=x.st.set (stripe t.s.trace x.st.length).toNat {y with l:=lN y.l t.s (jA x t) x.w.now}:=by unfold jQ;exact iQ hy
  rw[e] at hs'
  exact akI (y':={y with l:=lN y.l t.s (jA x t) x.w.now}) hy rfl hs'
 rw[e1,e2]
theorem ale (h:WI x) (ht:x.tasks[k]? =some t) (hop:t.op=1) (hpc:t.pc=3):nR x k t=ng x k t:=by
 have hh:eP t x.st.length=stripe t.trace x.st.length:=WK h.st.1.1 (.inl ⟨hop,hpc⟩)
 have e:mG k (jl x t k).st=gy (jl x t k).st t.trace (-1):=by
  by_cases hit:eG x.st t.trace=true∧(cO x.st t.trace).stamp=t.stamp∧x.c.budget < wr (x.used+dW t.s)
  ·have eD:(jl x t k).st=gN x.st (cO x.st t.trace).id:=by unfold jl;rw[if_pos hit];rfl
   obtain⟨o,ho⟩:∃ o,fq x.st t.trace=some o:=by have:=hit.1;unfold eG at this;exact Option.isSome_iff_exists.1 this
   have hoo:=(mV ho).1
   have hid:=(WM ho).2
   have ho':fq x.st o.id=some o:=by rw[hid];exact ho
   rw[eD,hoo]
   refine xX h.st.1.1 yD (fun i s' hs'=>?_) (yI h ht hh)
   obtain⟨s,hs,he,-⟩:=WU ho' hs'
   exact⟨s,hs,he⟩
  ·have eD:jl x t k=x:=by unfold jl;rw[if_neg hit]
   rw[eD]
   exact xX h.st.1.1 rfl xW (yI h ht hh)
 unfold nR ng
 rw[e]
end
end Go.Proofs.YtkdjapahgmflbaaGreat
end
section
set_option linter.unusedSimpArgs false
set_option linter.unusedVariables false
set_option maxHeartbeats 2000000
set_option maxRecDepth 20000
namespace Go.Proofs.YtkdjapahgmflbaaGreat
open Go Go.Ab Go.RowKit
attribute[local irreducible] cZ
section
end
section
variable{P:Program} {f:FuncId} {h H g:AH} {x y:Wld} {cs:List AV} {F:List Nat}
theorem uf {z B:Nat} {V:WV} {G:WF} {z0:List AV} (w:PW (z+1) H B x V G) (bz:Bk H z z0 0) (hz:z0.length=32) (e:Ext h H) (hn:h.n≤z) (k:Kp H g (B::G.a)) (hc:dO Wld P f x) (r:Cel.rep h x cs F):
  (Prog.op (.call f [.agg cs]) fun c=>.op (.st 32 (.ptr z 0) c) fun _=>.fin [.cn 32 (.ptr z 0),.val (.bool false)]).awp P g fun t vs h'=>t=1∧∃ v,vs=[v]∧nu h x false v h':=by
 have hBo:∀ c∈B::G.a,z+1≤c:=fun c hc=>by
  rcases List.mem_cons.1 hc with q|q
  ·rw[q];exact w.nb
  ·exact(w.own.1.2 c q).1
 have bz2:=bF k bz (fun hm=>by have:=hBo _ hm;omega)
 have e2:Ext h g:=Kp.ext e k fun c hc=>by have:=hBo c hc;omega
 exact YH hc (iW r e2) bz2 hz e2 hn
end
def Nh (x:Wld) (k:Int):Prop:=mO x∧(0≤k∧k≤2)∧(∃ t,x.tasks[k.toNat]? =some t∧t.op=1)
noncomputable def YF (x:Wld) (k:Nat):Option Wld:=match x.tasks[k]? with
 |some t=>(iF x k t).map fu
 |none=>none
noncomputable def orX (x:Wld):Option Wld→Wld × Bool
 |some y=>(y,true)
 |none=>(x,false)
noncomputable def yH (x:Wld) (k:Int):Wld × Bool:=if bp (Nh x k)=true then orX x (YF x k.toNat) else(x,false)
theorem VI {x:Wld} {k:Nat} {t:Task} (h:Nh x k) (ht:x.tasks[k]? =some t):yH x k=orX x ((iF x k t).map fu):=by
 unfold yH;rw[if_pos (fI h)];unfold YF;rw[Int.toNat_natCast,ht]
theorem VJ {x:Wld} {k:Int} (h: ¬ Nh x k):yH x k=(x,false):=if_neg (by rw[gu h];decide)
theorem WI.H7 {x:Wld} (h:WI x):x.cache.length≤1048576:=by
 have h1:=h.cache.2;have h2:=h.conf;unfold BS at h2;omega
end Go.Proofs.YtkdjapahgmflbaaGreat
end
section
set_option linter.unusedSimpArgs false
set_option linter.unusedVariables false
set_option maxHeartbeats 4000000
set_option maxRecDepth 20000
namespace Go.Proofs.YtkdjapahgmflbaaGreat
open Go Go.Ab Go.RowKit
attribute[local irreducible] cZ
section
def QX (x0 x1:AV):Prog:=Lf 29 x0 fun a=>Ix 12 a x1 fun a=>Lg 1 a fun a=>Bn .eql a (.int .i64 0) fun b=>.scope (.ite b (Lf 29 x0 fun a=>Ix 12 a x1 fun a=>Lg 8 a fun a=>Lf 14 x0 fun b=>Ln 0 b fun b=>Cl d9 [a,b] fun a=>Lf 14 x0 fun b=>Ix 2 b a fun b=>Lg 0 b fun b=>.op (.bin 0 .neq b (.int .i64 (-1))) fun b=>.ite b (.fin [.val (.bool false)]) (Lf 14 x0 fun b=>Ix 2 b a fun a=>Sg 0 a x1 fun _=>Lf 29 x0 fun a=>Ix 12 a x1 fun a=>Sg 1 a (.int .i64 1) fun _=>.leaf 0 [])) (Bn .eql a (.int .i64 1) fun b=>.scope (.ite b (Lf 15 x0 fun a=>.op (.bin 0 .neq a (.int .i64 (-1))) fun a=>.ite a (.fin [.val (.bool false)]) (Sf 15 x0 x1 fun _=>Lf 29 x0 fun a=>Ix 12 a x1 fun a=>Sg 1 a (.int .i64 2) fun _=>.leaf 0 [])) (Bn .eql a (.int .i64 2) fun a=>.scope (.ite a (Cl KE [x0,x1] fun _=>.leaf 0 []) (Cl J7 [x0,x1] fun a=>.op (.una .not a) fun a=>.ite a (.fin [.val (.bool false)]) (.leaf 0 []))) (fun _=>.leaf 0 []) fun a b=>aB a 1 (.leaf 1 b) .bad)) (fun _=>.leaf 0 []) fun a b=>aB a 1 (.leaf 1 b) .bad)) (fun _=>Lf 12 x0 fun a=>Bn .add a (.int .i64 1) fun a=>Sf 12 x0 a fun _=>.fin [.val (.bool true)]) fun a b=>aB a 1 (.leaf 1 b) .bad
theorem aeX (x0 x1:AV):CC Tryz.prog J5 [x0,x1] (QX x0 x1):=cc Tryz.func126 [0] (fun r=>if r=5 then[(0,[]),(1,[]),(2,[]),(3,[]),(4,[]),(5,[]),(6,[]),(7,[]),(8,[]),(9,[]),(10,[]),(11,[]),(12,[]),(13,[]),(14,[])] else[])
end
theorem adP {h:AH} {n b k:Nat} {x:Wld} {V:WV} {F:WF} {t:Task} {d:bI} (w:PW n h b x V F) (ht:x.tasks[k]? =some t) (hd:x.aF[t.h.toNat]? =some d) (h0:0≤t.h) (h1:1≤(x.st.length:Int)) (hs:Sz.sz x≤33554432) (hc:x.cache.length≤1048576) (hp:0≤t.pc∧t.pc≤3) (hh:t.pc=3→t.hand≠[]):bN Tryz.prog J5 [.ptr b 0,.int .i64 (k:Int)] h (Stp n h b F ((iG x k t).map fu)):=by
 obtain⟨v0,v1,v2,v3,v4,v5,v6,v7,v8,v9,v10⟩:=V
 have hk:k < x.tasks.length:=(List.getElem?_eq_some_iff.1 ht).1
 have s:=w.ws
 obtain⟨y,hy⟩:=lu h1 t.trace
 have hsb:=iU (t:=t.trace) h1
 have hhe:iB x t.trace=y.held:=Gp hy
 obtain⟨b1,o1,e1⟩:=w.r1.sl hy;have e1:v1= .sl b1 o1 x.st.length:=e1;subst e1;have l1:b1 < _:=dZ w.r1;obtain⟨b9,o9,e9⟩:=w.r9.sl ht;have e9:v9= .sl b9 o9 x.tasks.length:=e9;subst e9;have l9:b9 < _:=dZ w.r9
 have bk:=bkE w
 have hb:=bk.1
 obtain⟨dI,dJ,dU,j6,kG,ek,j5,j4,kH,iT,kF,kD,kE,jT,jk,gW⟩:=s.dL (bb:=b9) (off:=o9) ht rfl;have ek:EK Task _ _ _ b9 (o9+k * 12) [.int .i64 t.op,.int .i64 t.pc,.int .i64 t.s.trace,.int .i64 t.s.id,.int .i64 t.s.start,.int .i64 t.s.fin,.bool t.s.err,dI,.int .i64 t.trace,.int .i64 t.stamp,dJ,.int .i64 t.h] _ _ _ _:=ek
 have at9:=ek.at_
 refine aeX _ _ ?_
 unfold QX
 have hcs:t.pc=0∨t.pc=1∨t.pc=2∨t.pc=3:=by omega
 rcases hcs with hp|hp|hp|hp
 ·have e:iG x k t=if iB x t.trace≠-1 then none else some {x with st:=gy x.st t.trace k,tasks:=x.tasks.set k {t with pc:=1}}:=by unfold iG;rw[if_pos hp]
  rw[e]
  obtain⟨kW,kT,wR,ey,wH,uE,rH,wQ,wO,wP,rJ,rz,lV⟩:=s.kS (bb:=b1) (off:=o1) hy rfl;have ey:EK aQ _ _ _ b1 (o1+(stripe t.trace x.st.length).toNat * 2) [.int .i64 y.held,kW] _ _ _ _:=ey
  have at1:=ey.at_
  by_cases hf:y.held= -1
  ·rw[if_neg (by omega)]
   (repeat' first|((with_reducible refine bW ?_);refine EK.st_ (ey.ext aD) (by rfl) (by rfl) aX ?_;intro h_ ey k_ n_)|refine vsx ?_|refine ao4 ?_|(refine br ?_ ?_<;>first|exact bo|intro _)|((with_reducible refine aA d9 ?_);refine aJ iD ?_)|fail)
   all_goals try(exfalso;omega)
   obtain⟨x1,F1,e1,s1,m1⟩:=lV _ {y with held:=k} rfl ey
   have ht1:x1.tasks[k]? =some t:=by rw[e1];exact ht
   obtain⟨bZ,bY,gF,gD,gU,et,gM,gL,gI,fZ,gT,gP,gQ,gV,fF,dH⟩:=s1.dL (bb:=b9) (off:=o9) ht1 rfl;have et:EK Task _ _ _ b9 (o9+k * 12) [.int .i64 t.op,.int .i64 t.pc,.int .i64 t.s.trace,.int .i64 t.s.id,.int .i64 t.s.start,.int .i64 t.s.fin,.bool t.s.err,bZ,.int .i64 t.trace,.int .i64 t.stamp,bY,.int .i64 t.h] _ _ _ _:=et
   (repeat' first|((with_reducible refine bW ?_);refine EK.st_ (et.ext aD) (by rfl) (by rfl) aX ?_;intro h_ et k_ n_)|refine vsx ?_|(with_reducible refine aW ?_)|fail)
   obtain⟨x2,F2,e2,s2,m2⟩:=dH _ {t with pc:=1} rfl rfl et
   have bk2:=bkE s2.w
   have hb2:=bk2.1
   clear bk at9 at1
   (repeat' first|(with_reducible refine eu ?_)|refine vsx ?_|(with_reducible refine aW ?_)|fail)
   refine s2.iR (fu x2) (fun x3 e3 s3=>?_) iq (by rw[e2,e1];rfl)
   (repeat' first|refine vsw ?_|fail)
   have e:x3=fu {x with st:=gy x.st t.trace k,tasks:=x.tasks.set k {t with pc:=1}}:=by rw[e3,e2,e1,qC hy]
   rw[e] at s3
   exact⟨rfl,_,rfl,rfl,s3.done⟩
  ·rw[if_pos (by omega)]
   (repeat' first|refine vsw ?_|refine ao4 ?_|(refine br ?_ ?_<;>first|exact bo|intro _)|((with_reducible refine aA d9 ?_);refine aJ iD ?_)|fail)
   all_goals try(exfalso;omega)
   exact⟨rfl,_,rfl,rfl,Kp.iA aD⟩
 ·have e:iG x k t=if x.bS≠-1 then none else some {x with bS:=k,tasks:=x.tasks.set k {t with pc:=2}}:=by unfold iG;rw[if_neg (by omega),if_pos hp]
  rw[e]
  by_cases hf:x.bS= -1
  ·rw[if_neg (by omega)]
   (repeat' first|refine vsx ?_|refine ao4 ?_|(refine br ?_ ?_<;>first|exact bo|intro _)|fail)
   all_goals try(exfalso;omega)
   refine s.iR {x with bS:=(k:Int)} (fun x1 e1 s1=>?_) iq (by rfl)
   have ht1:x1.tasks[k]? =some t:=by rw[e1];exact ht
   obtain⟨bZ,bY,gF,gD,gU,et,gM,gL,gI,fZ,gT,gP,gQ,gV,fF,dH⟩:=s1.dL (bb:=b9) (off:=o9) ht1 rfl;have et:EK Task _ _ _ b9 (o9+k * 12) [.int .i64 t.op,.int .i64 t.pc,.int .i64 t.s.trace,.int .i64 t.s.id,.int .i64 t.s.start,.int .i64 t.s.fin,.bool t.s.err,bZ,.int .i64 t.trace,.int .i64 t.stamp,bY,.int .i64 t.h] _ _ _ _:=et
   (repeat' first|((with_reducible refine bW ?_);refine EK.st_ (et.ext aD) (by rfl) (by rfl) aX ?_;intro h_ et k_ n_)|refine vsx ?_|(with_reducible refine aW ?_)|fail)
   obtain⟨x2,F2,e2,s2,m2⟩:=dH _ {t with pc:=2} rfl rfl et
   have bk2:=bkE s2.w
   have hb2:=bk2.1
   clear bk at9
   (repeat' first|(with_reducible refine eu ?_)|refine vsx ?_|(with_reducible refine aW ?_)|fail)
   refine s2.iR (fu x2) (fun x3 e3 s3=>?_) iq (by rw[e2,e1];rfl)
   (repeat' first|refine vsw ?_|fail)
   have e:x3=fu {x with bS:=(k:Int),tasks:=x.tasks.set k {t with pc:=2}}:=by rw[e3,e2,e1]
   rw[e] at s3
   exact⟨rfl,_,rfl,rfl,s3.done⟩
  ·rw[if_pos (by omega)]
   (repeat' first|refine vsw ?_|refine ao4 ?_|(refine br ?_ ?_<;>first|exact bo|intro _)|fail)
   all_goals try(exfalso;omega)
   exact⟨rfl,_,rfl,rfl,Kp.iA aD⟩
 ·have e:iG x k t=some (nU x k t):=by unfold iG;rw[if_neg (by omega),if_neg (by omega),if_pos hp]
  rw[e]
  (repeat' first|refine vsx ?_|refine ao4 ?_|(refine br ?_ ?_<;>first|exact bo|intro _)|fail)
  all_goals try(exfalso;omega)
  refine aK (agb w ht hd h0 h1 hs hc) ?_
  rintro _ h2 ⟨rfl,W⟩
  obtain⟨V2,F2,s2,-⟩:=s.call W
  obtain⟨z,hz,s2⟩:=s2.gen
  obtain⟨v0,v1,v2,v3,v4,v5,v6,v7,v8,v9,v10⟩:=V2
  have bk2:=bkE s2.w
  have hb2:=bk2.1
  (repeat' first|(with_reducible refine eu ?_)|refine vsx ?_|(with_reducible refine aW ?_)|fail)
  refine s2.iR (fu z) (fun x3 e3 s3=>?_)
  (repeat' first|refine vsw ?_|fail)
  subst e3
  subst hz
  exact⟨rfl,_,rfl,rfl,s3.done⟩
 ·have e:iG x k t=qY x k t:=by unfold iG;rw[if_neg (by omega),if_neg (by omega),if_neg (by omega)]
  rw[e]
  obtain⟨y,ys,hyy⟩:∃ y ys,t.hand=y::ys:=by
   cases hq:t.hand with
   |nil=>exact absurd hq (hh hp)
   |cons a l=>exact⟨a,l,rfl⟩
  (repeat' first|refine vsx ?_|refine ao4 ?_|(refine br ?_ ?_<;>first|exact bo|intro _)|fail)
  all_goals try(exfalso;omega)
  refine aK (adQ w ht hd h0 hyy hs) ?_
  intro v2 h2 hst
  cases hL:qY x k t with
  |none=>
   rw[hL] at hst
   obtain⟨rfl,kk⟩:=hst
   (repeat' first|refine vsw ?_|fail)
   exact⟨rfl,_,rfl,rfl,kk⟩
  |some z=>
   rw[hL] at hst
   obtain⟨rfl,W⟩:=hst
   obtain⟨V2,F2,s2,-⟩:=s.call W
   obtain⟨v0,v1,v2,v3,v4,v5,v6,v7,v8,v9,v10⟩:=V2
   have bk2:=bkE s2.w
   have hb2:=bk2.1
   (repeat' first|(with_reducible refine eu ?_)|refine vsx ?_|(with_reducible refine aW ?_)|fail)
   refine s2.iR (fu z) (fun x3 e3 s3=>?_)
   (repeat' first|refine vsw ?_|fail)
   subst e3
   exact⟨rfl,_,rfl,rfl,s3.done⟩
def Ni (x:Wld) (k:Int):Prop:=mO x∧(3≤k∧k≤4)∧(∃ t,x.tasks[k.toNat]? =some t∧t.op=2)
noncomputable def stepJ (x:Wld) (k:Nat):Option Wld:=match x.tasks[k]? with
 |some t=>(iG x k t).map fu
 |none=>none
noncomputable def yK (x:Wld) (k:Int):Wld × Bool:=if bp (Ni x k)=true then orX x (stepJ x k.toNat) else(x,false)
theorem VO {x:Wld} {k:Nat} {t:Task} (h:Ni x k) (ht:x.tasks[k]? =some t):yK x k=orX x ((iG x k t).map fu):=by
 unfold yK;rw[if_pos (fI h)];unfold stepJ;rw[Int.toNat_natCast,ht]
theorem VP {x:Wld} {k:Int} (h: ¬ Ni x k):yK x k=(x,false):=if_neg (by rw[gu h];decide)
end Go.Proofs.YtkdjapahgmflbaaGreat
end
