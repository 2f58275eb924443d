import Derived.Test.YtkdjapahgmflbaaGreatDW114
import Derived.Test.YtkdjapahgmflbaaGreatDW111
import Derived.Test.YtkdjapahgmflbaaGreatDW72
import Derived.Test.YtkdjapahgmflbaaGreatDW99
set_option linter.unusedSimpArgs false
set_option linter.unusedVariables false
set_option maxHeartbeats 4000000
set_option maxRecDepth 20000
namespace Go.Proofs.YtkdjapahgmflbaaGreat
open Go Go.Ab Go.RowKit
attribute[local irreducible] cZ
section
def Uk (x0 x1:AV):Prog:=Lf 29 x0 fun a=>Ix 12 a x1 fun a=>Lg 0 a fun a=>Bn .eql a (.int .i64 1) fun b=>.ite b (Cl J8 [x0,x1] fun a=>.fin [.val a]) (Bn .eql a (.int .i64 2) fun a=>.ite a (Cl J5 [x0,x1] fun a=>.fin [.val a]) (Bn .lss x1 (.int .i64 3) fun a=>.gop a false (.mv x0) fun b=>.gop a false (.bg b) fun b=>Gf a false 26 b fun b=>.gop a false (.len 0 b) fun b=>.gop a false (.bin 0 .eql b (.int .i64 0)) fun b=>Pk a (.bool true) b fun a=>.ite a (.fin [.val (.bool false)]) (Cl JI [x0,x1] fun _=>.fin [.val (.bool true)])))
theorem ail (x0 x1:AV):CC Tryz.prog KX [x0,x1] (Uk x0 x1):=cc Tryz.func60 [0,1] (fun _=>[])
def UL (x0 x1:AV):Prog:=.op (.box x0) fun a=>.op (.alloc jE) fun b=>Ld 32 a fun c=>Cl Ef [c] fun c=>.op (.alloc jE) fun d=>.op (.st 32 d c) fun _=>Ld 32 a fun c=>Cl Af [c] fun c=>.op (.una .not c) fun c=>.gop c false (.mv x1) fun e=>.gop c false (.call bQ [e,.int .i64 0,.int .i64 4]) fun e=>.gop c false (.una .not e) fun e=>Pk c (.bool true) e fun c=>.gop c false (.mv x1) fun e=>.gop c false (.call KX [d,e]) fun e=>.gop c false (.una .not e) fun e=>Pk c (.bool true) e fun c=>.ite c (Ld 32 a fun a=>Cl Ef [a] fun a=>.op (.st 32 b a) fun _=>.fin [.cn 32 b,.val (.bool false)]) (Ld 32 d fun a=>.op (.st 32 b a) fun _=>.fin [.cn 32 b,.val (.bool true)])
theorem aiV (x0 x1:AV):CC Tryz.prog K9 [x0,x1] (UL x0 x1):=cc Tryz.func12
def UQ (x0 x1:AV):Prog:=.op (.box x0) fun a=>.op (.alloc jE) fun b=>Ld 32 a fun c=>Cl jI [c] fun c=>.op (.una .not c) fun c=>.gop c false (.mv x1) fun d=>.gop c false (.call bq [d,.int .i64 0,.int .i64 4]) fun d=>.gop c false (.una .not d) fun d=>Pk c (.bool true) d fun c=>.ite c (Ld 32 a fun a=>Cl rX [a] fun a=>.op (.st 32 b a) fun _=>.fin [.cn 32 b,.val (.bool false)]) (Lg 29 a fun c=>Ix 12 c x1 fun c=>Lg 0 c fun c=>Bn .eql c (.int .i64 1) fun d=>.ite d (Ld 32 a fun a=>Cl Jw [a,x1] fun a=>.op (.ext a 0) fun c=>.op (.ext a 1) fun a=>.op (.st 32 b c) fun _=>.fin [.cn 32 b,.val a]) (Bn .eql c (.int .i64 2) fun c=>.ite c (Ld 32 a fun a=>Cl Jy [a,x1] fun a=>.op (.ext a 0) fun c=>.op (.ext a 1) fun a=>.op (.st 32 b c) fun _=>.fin [.cn 32 b,.val a]) (Ld 32 a fun a=>Cl K4 [a,x1] fun a=>.op (.ext a 0) fun c=>.op (.ext a 1) fun a=>.op (.st 32 b c) fun _=>.fin [.cn 32 b,.val a])))
theorem aiZ (x0 x1:AV):CC Tryz.prog Lc [x0,x1] (UQ x0 x1):=cc Tryz.func14 [1,2,4] (fun _=>[])
end
theorem ah0 {h:AH} {n b k:Nat} {x:Wld} {V:WV} {F:WF} {t:Task} (w:PW n h b x V F) (hI:WI x) (ht:x.tasks[k]? =some t) (hs:Sz.sz x≤33554432):bN Tryz.prog KX [.ptr b 0,.int .i64 (k:Int)] h (Stp n h b F (mo x k t)):=by
 have w0:=w
 obtain⟨v0,v1,v2,v3,v4,v5,v6,v7,v8,v9,v10⟩:=V
 have hk:k < x.tasks.length:=(List.getElem?_eq_some_iff.1 ht).1
 have s:=w.ws
 have r6:au h v6 x.due F.f6:=w.r6
 obtain⟨b9,o9,e9⟩:=w.r9.sl ht;have e9:v9= .sl b9 o9 x.tasks.length:=e9;subst e9;have l9:b9 < _:=dZ w.r9
 have bk:=bkE w
 have hb:=bk.1
 have hnb:n≤h.n:=by have:=w.nb;omega
 obtain⟨dI,dJ,dU,j6,kG,ek,j5,j4,kH,iT,kF,kD,kE,jT,jk,gW⟩:=s.dL (bb:=b9) (off:=o9) ht rfl;have ek:EK Task _ _ _ b9 (o9+k * 12) [.int .i64 t.op,.int .i64 t.pc,.int .i64 t.s.trace,.int .i64 t.s.id,.int .i64 t.s.start,.int .i64 t.s.fin,.bool t.s.err,dI,.int .i64 t.trace,.int .i64 t.stamp,dJ,.int .i64 t.h] _ _ _ _:=ek
 have at9:=ek.at_
 have htk:=(hI.tasks k t ht).1.1
 refine ail _ _ ?_
 unfold Uk
 by_cases h1:t.op=1
 ·have e:mo x k t=(iF x k t).map fu:=by unfold mo;rw[if_pos h1]
  obtain⟨d,hd,-,-⟩:=hI.own ht (by omega)
  rw[e]
  (repeat' first|refine vsx ?_|refine ao4 ?_|(refine br ?_ ?_<;>first|exact bo|intro _)|fail)
  all_goals try(exfalso;omega)
  refine aK (adR (t:=t) (d:=d) w ht hd htk.1 hI.n1 hs hI.H7 htk.2.1) ?_
  intro v2 h2 hst
  cases hL:(iF x k t).map fu with
  |none=>
   rw[hL] at hst
   obtain⟨rfl,kk⟩:=hst
   (repeat' first|refine vsw ?_|fail)
   exact⟨rfl,_,rfl,rfl,kk⟩
  |some y=>
   rw[hL] at hst
   obtain⟨rfl,W⟩:=hst
   (repeat' first|refine vsw ?_|fail)
   exact⟨rfl,_,rfl,rfl,W⟩
 ·by_cases h2:t.op=2
  ·have e:mo x k t=(iG x k t).map fu:=by unfold mo;rw[if_neg h1,if_pos h2]
   have hT:=task2 hI ht h2
   obtain⟨d,hd,-,-⟩:=hI.own ht (by omega)
   rw[e]
   (repeat' first|refine vsx ?_|refine ao4 ?_|(refine br ?_ ?_<;>first|exact bo|intro _)|fail)
   all_goals try(exfalso;omega)
   refine aK (adP (t:=t) (d:=d) w ht hd htk.1 hI.n1 hs hI.H7 htk.2.1 (fun q hn=>by have:=hT.2.2.1.2.1 q;rw[hn] at this;simp at this)) ?_
   intro v2 h2 hst
   cases hL:(iG x k t).map fu with
   |none=>
    rw[hL] at hst
    obtain⟨rfl,kk⟩:=hst
    (repeat' first|refine vsw ?_|fail)
    exact⟨rfl,_,rfl,rfl,kk⟩
   |some y=>
    rw[hL] at hst
    obtain⟨rfl,W⟩:=hst
    (repeat' first|refine vsw ?_|fail)
    exact⟨rfl,_,rfl,rfl,W⟩
  ·have e:mo x k t=if(k:Int) < 3∨x.due.length=0 then none else some (wB x k):=by unfold mo;rw[if_neg h1,if_neg h2]
   rw[e]
   by_cases hf:(k:Int) < 3∨x.due.length=0
   ·rw[if_pos hf]
    (repeat' first|refine vsx ?_|refine ao4 ?_|(refine br ?_ ?_<;>first|exact bo|intro _)|fail)
    all_goals try(exfalso;omega)
    all_goals
     (repeat' first|refine vsw ?_|fail)
     exact⟨rfl,_,rfl,rfl,Kp.iA aD⟩
   ·rw[if_neg hf]
    obtain⟨td,rest,hd⟩:∃ td rest,x.due=td::rest:=by
     cases hq:x.due with
     |nil=>rw[hq] at hf;simp at hf
     |cons a l=>exact⟨a,l,rfl⟩
    (repeat' first|refine vsx ?_|refine ao4 ?_|(refine br ?_ ?_<;>first|exact bo|intro _)|fail)
    all_goals try(exfalso;omega)
    refine aK (acu w hnb hd hk (by omega)) ?_
    rintro _ h2 ⟨rfl,W⟩
    (repeat' first|refine vsw ?_|fail)
    exact⟨rfl,_,rfl,rfl,W⟩
def uG (x:Wld) (k:Int):Prop:=mO x∧(0≤k∧k≤4)
noncomputable def YE (x:Wld) (k:Nat):Option Wld:=match x.tasks[k]? with
 |some t=>mo x k t
 |none=>none
noncomputable def mq (x:Wld) (k:Int):Wld × Bool:=if bp (uG x k)=true then orX x (YE x k.toNat) else(x,false)
theorem GD {x:Wld} {k:Nat} {t:Task} (h:uG x k) (ht:x.tasks[k]? =some t):mq x k=orX x (mo x k t):=by
 unfold mq;rw[if_pos (fI h)];unfold YE;rw[Int.toNat_natCast,ht]
theorem Xv {x:Wld} {k:Int} (h: ¬ uG x k):mq x k=(x,false):=if_neg (by rw[gu h];decide)
theorem aiJ {h:AH} {x:Wld} {cs:List AV} {F:List Nat} {k:Int} (ok:Cel.ok x) (hs:Sz.sz x≤33554432) (r:Cel.rep h x cs F):bN Tryz.prog K9 [.agg cs,.int .i64 k] h (nu h (mq x k).1 (mq x k).2):=by
 have hs0:Sz.sz x≤67108864:=by omega
 have hs1:=hs
 have hs:=hs0
 have r0':=r
 obtain⟨v0,v1,v2,v3,v4,v5,v6,v7,v8,v9,v10,F0,F1,F2,F3,F4,F5,F6,F7,F8,F9,F10,rfl,rfl,r0,r1,r2,r3,r4,r5,r6,r7,r8,r9,r10⟩:=r
 have hs:Sz.sz x.c+(x.st.length+szs x.st)+(x.cache.length+szs x.cache)+Sz.sz x.w+(x.due.length+szs x.due)+(x.queue.length+szs x.queue)+(x.out.length+szs x.out)+(x.tasks.length+szs x.tasks)+(x.aF.length+szs x.aF)≤67108864:=hs
 have hl1:=r1.small
 have hl9:=r9.small
 refine aiV _ _ ?_
 unfold UL
 refine prolog (JW x hs0) r0' ?_
 intro H B V G e nB hB bx bz w
 have bB:Bk H B [AV.int .i64 x.c.eU,AV.int .i64 x.c.wait,AV.int .i64 x.c.budget,AV.int .i64 x.c.cache,AV.int .i64 x.c.queue,AV.int .i64 x.c.rate,AV.int .i64 x.c.bn,AV.int .i64 x.c.rule.kind,AV.int .i64 x.c.rule.n,AV.str x.c.rule.key,AV.str x.c.rule.text,V.v0,AV.int .i64 x.time,AV.bool x.shut,V.v1,AV.int .i64 x.bS,AV.int .i64 x.b.rate,AV.int .i64 x.b.bn,AV.int .i64 x.b.tokens,AV.int .i64 x.b.at_,V.v2,AV.int .i64 x.used,AV.int .i64 x.w.now,V.v3,V.v4,V.v5,V.v6,V.v7,V.v8,V.v9,V.v10,AV.int .i64 x.next] 0:=w.bk
 by_cases hw:uG x k
 ·have h5:=hw.1.2.1
  have hk:=hw.2
  obtain⟨t,ht,-,-⟩:=aP (show k.toNat < x.tasks.length by omega)
  obtain⟨k',rfl⟩:∃ k':Nat,k=k':=⟨k.toNat,by omega⟩
  simp only[Int.toNat_natCast] at ht
  rw[GD hw ht]
  have hI:=xL.1 hw.1
  (repeat' first|refine vs ?_|((with_reducible refine aA Af ?_);(refine aS (QH (x:=x) ok hs0 ⟨_,_,_,_,_,_,_,_,_,_,_,_,_,_,_,_,_,_,_,_,_,_,rfl,rfl,ah,ah,ah,ah,ah,ah,ah,ah,ah,ah,ah⟩) ?_ ?_<;>intro hn))|((with_reducible refine aA bQ ?_);(refine bU (jr) ?_ ?_<;>intro hb<;>(first|replace hb:=dx hb|replace hb:=dz hb)))|fail)
  all_goals try(exfalso;first|omega|exact absurd hw.1 (by assumption))
  refine aK (ah0 (t:=t) w hI ht hs1) ?_
  intro v2 h2 hst
  cases hL:mo x k' t with
  |none=>
   rw[hL] at hst
   obtain⟨rfl,kk⟩:=hst
   have nx:h.n ∉ B::G.a:=fun hm=>by
    rcases List.mem_cons.1 hm with q|q
    ·omega
    ·have:=(w.own.1.2 _ q).1;omega
   have bx2:=bF kk bx nx
   (repeat' first|refine vsx ?_|fail)
   exact uf w bz rfl e (by omega) kk (JW x hs0) r0'
  |some y=>
   rw[hL] at hst
   obtain⟨rfl,W⟩:=hst
   (repeat' first|refine vsx ?_|fail)
   exact amw w bz rfl e (by omega) W
 ·rw[Xv hw]
  (repeat' first|refine vs ?_|((with_reducible refine aA Af ?_);(refine aS (QH (x:=x) ok hs0 ⟨_,_,_,_,_,_,_,_,_,_,_,_,_,_,_,_,_,_,_,_,_,_,rfl,rfl,ah,ah,ah,ah,ah,ah,ah,ah,ah,ah,ah⟩) ?_ ?_<;>intro hn))|((with_reducible refine aA bQ ?_);(refine bU (jr) ?_ ?_<;>intro hb<;>(first|replace hb:=dx hb|replace hb:=dz hb)))|refine gS ?_|fail)
  all_goals first
   |exact absurd ⟨by assumption,by omega⟩ hw
   |exact uf w bz rfl e (by omega) (Kp.refl _ _) (JW x hs0) r0'
theorem ajf {x:Wld} {k:Nat} {t:Task} (hw:uG x k) (ht:x.tasks[k]? =some t) (h1:t.op=1):yH x k=mq x k:=by
 have hI:=xL.1 hw.1
 have hk3:=(task1 hI ht h1).2.1
 rw[GD hw ht,VI ⟨hw.1,⟨by omega,by omega⟩,t,ht,h1⟩ ht]
 unfold mo;rw[if_pos h1]
theorem ajg {x:Wld} {k:Nat} {t:Task} (hw:uG x k) (ht:x.tasks[k]? =some t) (h2:t.op=2):yK x k=mq x k:=by
 have hI:=xL.1 hw.1
 have hk3:=(task2 hI ht h2).2.1
 have hk4:=hw.2
 rw[GD hw ht,VO ⟨hw.1,⟨by omega,by omega⟩,t,ht,h2⟩ ht]
 unfold mo;rw[if_neg (by omega),if_pos h2]
theorem ajh {x:Wld} {k:Nat} {t:Task} (hw:uG x k) (ht:x.tasks[k]? =some t) (h1:t.op≠1) (h2:t.op≠2):BX x k=mq x k:=by
 have hI:=xL.1 hw.1
 have h0:t.op=0:=by
  rcases Classical.em (t.op=0) with q|q
  ·exact q
  ·rcases LC (hI.tasks k t ht).1.1 q with r|r
   ·exact absurd r h1
   ·exact absurd r h2
 have hk4:=hw.2
 rw[GD hw ht]
 unfold mo;rw[if_neg h1,if_neg h2]
 by_cases hf:(k:Int) < 3∨x.due.length=0
 ·rw[if_pos hf,Me fun c=>?_]
  ·rfl
  ·rcases hf with q|q
   ·have:=c.2.1;omega
   ·exact c.2.2.2 (List.length_eq_zero_iff.1 q)
 ·rw[if_neg hf,WZ ⟨hw.1,⟨by omega,by omega⟩,⟨t,by rw[Int.toNat_natCast];exact ht,h0⟩,fun q=>hf (.inr (by rw[q];rfl))⟩,Int.toNat_natCast]
  rfl
section
variable{P:Program} {h H g:AH} {y:Wld}
theorem M0 {z:Nat} {z0:List AV} {v:AV} {b:Bool} (hq:nu H y b v g) (bz:Bk H z z0 0) (hz:z0.length=32) (e:Ext h H) (hn:h.n≤z):
  (Prog.op (.ext v 0) fun a=>.op (.ext v 1) fun c=>.op (.st 32 (.ptr z 0) a) fun _=>.fin [.cn 32 (.ptr z 0),.val c]).awp P g fun t vs h'=>t=1∧∃ v,vs=[v]∧nu h y b v h':=by
 obtain⟨e1,cs1,G,rfl,q1,o1⟩:=hq
 have n1:=e1.1
 have l1:cs1.length=32:=Cel.len q1
 have bz1:=dX e1 bz
 refine nO rfl (nO rfl ?_)
 refine kU (xs:=cs1) rfl l1 (qQ bz1 (Mj (by rw[l1,hz]))) ?_
 have bz2:Bk (g.upd z ⟨cs1,0,0⟩) z cs1 0:=fP bz1.1
 refine vO (II (cs:=cs1) ⟨by rw[bz2.2];exact List.take_of_length_le (by simp[l1]),by decide,l1,by simp[live,bz2.2]⟩) IG ?_
 have lt:=Cel.lt q1
 have hnz:z ∉ G:=fun hm=>by have:=(o1.2 z hm).1;have:=bz.1;omega
 have hne:=e.1
 refine⟨rfl,_,rfl,(e.trans e1).upd hn _,_,G,rfl,?_,?_⟩
 ·exact BL fO q1 fun c hc hm=>hnz (List.mem_singleton.1 hm▸hc)
 ·exact(dN ⟨o1,lt⟩ hnz).1.mono (by omega) fun _ _=>rfl
end
theorem aiN {h:AH} {x:Wld} {cs:List AV} {F:List Nat} {k:Int} (ok:Cel.ok x) (hs:Sz.sz x≤33554432) (r:Cel.rep h x cs F):bN Tryz.prog Lc [.agg cs,.int .i64 k] h (nu h (mq x k).1 (mq x k).2):=by
 have hs0:Sz.sz x≤67108864:=by omega
 have hs1:=hs
 have hs:=hs0
 obtain⟨v0,v1,v2,v3,v4,v5,v6,v7,v8,v9,v10,F0,F1,F2,F3,F4,F5,F6,F7,F8,F9,F10,rfl,rfl,r0,r1,r2,r3,r4,r5,r6,r7,r8,r9,r10⟩:=r
 have hs:Sz.sz x.c+(x.st.length+szs x.st)+(x.cache.length+szs x.cache)+Sz.sz x.w+(x.due.length+szs x.due)+(x.queue.length+szs x.queue)+(x.out.length+szs x.out)+(x.tasks.length+szs x.tasks)+(x.aF.length+szs x.aF)≤67108864:=hs
 have hl1:=r1.small
 have hl9:=r9.small
 refine aiZ _ _ ?_
 unfold UQ
 by_cases hw:uG x k
 ·have h5:=hw.1.2.1
  have hk:=hw.2
  obtain⟨t,ht,-,-⟩:=aP (show k.toNat < x.tasks.length by omega)
  obtain⟨k',rfl⟩:∃ k':Nat,k=k':=⟨k.toNat,by omega⟩
  simp only[Int.toNat_natCast] at ht
  (repeat' first|refine vs ?_|(refine br ?_ ?_<;>intro _<;>try(exfalso;first|omega|contradiction))|((with_reducible refine aA jI ?_);(refine aS (ny (x:=x) ok hs0 ⟨_,_,_,_,_,_,_,_,_,_,_,_,_,_,_,_,_,_,_,_,_,_,rfl,rfl,ah,ah,ah,ah,ah,ah,ah,ah,ah,ah,ah⟩) ?_ ?_<;>intro hn))|((with_reducible refine aA bq ?_);(refine bU (eZ) ?_ ?_<;>intro hb<;>(first|replace hb:=dx hb|replace hb:=dz hb)))|((with_reducible refine aY ?_);((refine ix ?_);rintro _ _ _ _ _ ⟨_,_,_,_,rfl,rfl,_,_⟩ _))|fail)
  all_goals try(exfalso;first|omega|exact absurd hw.1 (by assumption))
  ·refine aK (abq (x:=x) ok hs1 ⟨_,_,_,_,_,_,_,_,_,_,_,_,_,_,_,_,_,_,_,_,_,_,rfl,rfl,ah,ah,ah,ah,ah,ah,ah,ah,ah,ah,ah⟩) ?_
   intro v g hq
   rw[ajf hw ht (by assumption)] at hq
   exact M0 hq aV rfl aD aO
  ·refine aK (abr (x:=x) ok hs1 ⟨_,_,_,_,_,_,_,_,_,_,_,_,_,_,_,_,_,_,_,_,_,_,rfl,rfl,ah,ah,ah,ah,ah,ah,ah,ah,ah,ah,ah⟩) ?_
   intro v g hq
   rw[ajg hw ht (by assumption)] at hq
   exact M0 hq aV rfl aD aO
  ·refine aK (aib (x:=x) ok hs0 ⟨_,_,_,_,_,_,_,_,_,_,_,_,_,_,_,_,_,_,_,_,_,_,rfl,rfl,ah,ah,ah,ah,ah,ah,ah,ah,ah,ah,ah⟩) ?_
   intro v g hq
   rw[ajh hw ht (by assumption) (by assumption)] at hq
   exact M0 hq aV rfl aD aO
 ·rw[Xv hw]
  (repeat' first|refine vs ?_|((with_reducible refine aA jI ?_);(refine aS (ny (x:=x) ok hs0 ⟨_,_,_,_,_,_,_,_,_,_,_,_,_,_,_,_,_,_,_,_,_,_,rfl,rfl,ah,ah,ah,ah,ah,ah,ah,ah,ah,ah,ah⟩) ?_ ?_<;>intro hn))|((with_reducible refine aA bq ?_);(refine bU (eZ) ?_ ?_<;>intro hb<;>(first|replace hb:=dx hb|replace hb:=dz hb)))|refine gS ?_|fail)
  all_goals first
   |(exfalso;exact absurd ⟨by assumption,by omega⟩ hw)
   |exact YH (oC x hs0) ⟨_,_,_,_,_,_,_,_,_,_,_,_,_,_,_,_,_,_,_,_,_,_,rfl,rfl,ah,ah,ah,ah,ah,ah,ah,ah,ah,ah,ah⟩ aV rfl aD aO
end Go.Proofs.YtkdjapahgmflbaaGreat
