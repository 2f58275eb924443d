import Derived.Test.YtekfdoknfcedpaaGreatDW91
import Derived.Test.YtekfdoknfcedpaaGreatDW96
import Derived.Test.YtekfdoknfcedpaaGreatDW97
set_option linter.unusedSimpArgs false
set_option linter.unusedVariables false
set_option maxHeartbeats 2000000
set_option maxRecDepth 20000
namespace Go.Proofs.YtekfdoknfcedpaaGreat
open Go Go.Ab Go.RowKit
attribute[local irreducible] dI
section
def Nz (x0 x1:AV):Prog:=.op (.box x0) fun a=>.op (.alloc j6) fun b=>Ld 32 a fun c=>Cl CW [c] fun c=>.op (.alloc j6) fun d=>.op (.st 32 d c) fun _=>Ld 32 a fun c=>Cl vI [c] fun c=>.op (.una .not c) fun c=>.gop c false (.mv x1) fun e=>.gop c false (.call bI [e,.int .i64 0,.int .i64 2]) fun e=>.gop c false (.una .not e) fun e=>Pk c (.bool true) e fun c=>Gf c false 29 a fun e=>.gop c false (.mv x1) fun f=>.gop c false (.idx 12 e f) fun e=>Gf c false 0 e fun e=>.gop c false (.bin 0 .neq e (.int .i64 1)) fun e=>Pk c (.bool true) e fun c=>.gop c false (.mv x1) fun e=>.gop c false (.call Jd [d,e]) fun e=>.gop c false (.una .not e) fun e=>Pk c (.bool true) e fun c=>.ite c (Ld 32 a fun a=>Cl CW [a] fun a=>.op (.st 32 b a) fun _=>.fin [.cn 32 b,.val (.bool false)]) (Ld 32 d fun a=>.op (.st 32 b a) fun _=>.fin [.cn 32 b,.val (.bool true)])
theorem ace (x0 x1:AV):CC Tryz.prog Ig [x0,x1] (Nz x0 x1):=cc Tryz.func13
end
section
variable{P:Program} {f:FuncId} {h H g:AH} {x y:Wld} {cs:List AV} {F:List Nat}
theorem xJ {z B:Nat} {V:WV} {G:WF} {z0:List AV} (w:PW (z+1) H B x V G) (bz:Bk H z z0 0) (hz:z0.length=32) (e:Ext h H) (hn:h.n≤z) (k:Kp H g (B::G.a)) (hc:dJ Wld P f x) (r:Cel.rep h x cs F):
  (Prog.op (.call f [.agg cs]) fun c=>.op (.st 32 (.ptr z 0) c) fun _=>.fin [.cn 32 (.ptr z 0),.val (.bool false)]).awp P g fun t vs h'=>t=1∧∃ v,vs=[v]∧uV h x false v h':=by
 have hBo:∀ c∈B::G.a,z+1≤c:=fun c hc=>by
  rcases List.mem_cons.1 hc with q|q
  ·rw[q];exact w.nb
  ·exact(w.own.1.2 c q).1
 have bz2:=bJ k bz (fun hm=>by have:=hBo _ hm;omega)
 have e2:Ext h g:=Kp.ext e k fun c hc=>by have:=hBo c hc;omega
 exact amh hc (fD r e2) bz2 hz e2 hn
end
def Gs (x:Wld) (k:Int):Prop:=qR x∧(0≤k∧k≤2)∧(∃ t,x.tasks[k.toNat]? =some t∧t.op=1)
noncomputable def Wm (x:Wld) (k:Nat):Option Wld:=match x.tasks[k]? with
 |some t=>(gJ x k t).map kE
 |none=>none
noncomputable def orX (x:Wld):Option Wld→Wld × Bool
 |some y=>(y,true)
 |none=>(x,false)
noncomputable def nN (x:Wld) (k:Int):Wld × Bool:=if bp (Gs x k)=true then orX x (Wm x k.toNat) else(x,false)
theorem Km {x:Wld} {k:Nat} {t:Task} (h:Gs x k) (ht:x.tasks[k]? =some t):nN x k=orX x ((gJ x k t).map kE):=by
 unfold nN;rw[if_pos (lu h)];unfold Wm;rw[Int.toNat_natCast,ht]
theorem zu {x:Wld} {k:Int} (h: ¬ Gs x k):nN x k=(x,false):=if_neg (by rw[kI h];decide)
theorem WI.V6 {x:Wld} (h:WI x):x.cache.length≤1048576:=by
 have h1:=h.cache.2;have h2:=h.conf;unfold Ae at h2;omega
theorem abf {h:AH} {x:Wld} {cs:List AV} {F:List Nat} {k:Int} (ok:Cel.ok x) (hs:Sz.sz x≤33554432) (r:Cel.rep h x cs F):bE Tryz.prog Ig [.agg cs,.int .i64 k] h (uV h (nN x k).1 (nN x k).2):=by
 have hs0:Sz.sz x≤67108864:=by omega
 have hs1:=hs
 have hs:=hs0
 have r0':=r
 obtain⟨v0,v1,v2,v3,v4,v5,v6,v7,v8,v9,v10,F0,F1,F2,F3,F4,F5,F6,F7,F8,F9,F10,rfl,rfl,r0,r1,r2,r3,r4,r5,r6,r7,r8,r9,r10⟩:=r
 have hs:Sz.sz x.c+(x.st.length+szs x.st)+(x.cache.length+szs x.cache)+Sz.sz x.w+(x.due.length+szs x.due)+(x.queue.length+szs x.queue)+(x.out.length+szs x.out)+(x.tasks.length+szs x.tasks)+(x.aI.length+szs x.aI)≤67108864:=hs
 have hl1:=r1.small
 have hl9:=r9.small
 refine ace _ _ ?_
 unfold Nz
 refine prolog (CP x hs0) r0' ?_
 intro H B V G e nB hB bx bz w
 have bB:Bk H B [AV.int .i64 x.c.cB,AV.int .i64 x.c.wait,AV.int .i64 x.c.budget,AV.int .i64 x.c.cache,AV.int .i64 x.c.queue,AV.int .i64 x.c.rate,AV.int .i64 x.c.aV,AV.int .i64 x.c.rule.kind,AV.int .i64 x.c.rule.n,AV.str x.c.rule.key,AV.str x.c.rule.text,V.v0,AV.int .i64 x.time,AV.bool x.shut,V.v1,AV.int .i64 x.bQ,AV.int .i64 x.b.rate,AV.int .i64 x.b.aV,AV.int .i64 x.b.tokens,AV.int .i64 x.b.at_,V.v2,AV.int .i64 x.used,AV.int .i64 x.w.now,V.v3,V.v4,V.v5,V.v6,V.v7,V.v8,V.v9,V.v10,AV.int .i64 x.next] 0:=w.bk
 by_cases hw:qR x∧(0≤k∧k≤2)
 ·have h5:=hw.1.2.1
  obtain⟨t,ht,-,-⟩:=aQ (show k.toNat < x.tasks.length by omega)
  obtain⟨k',rfl⟩:∃ k':Nat,k=k':=⟨k.toNat,by omega⟩
  simp only[Int.toNat_natCast] at ht
  by_cases hg:t.op=1
  ·rw[Km ⟨hw.1,hw.2,t,ht,hg⟩ ht]
   have hI:=Sj.1 hw.1
   obtain⟨d,hd,-,-⟩:=hI.own ht (by omega)
   have htk:=(hI.tasks k' t ht).1.1
   (repeat' first|refine vs ?_|(refine br ?_ ?_<;>first|exact bo|intro _)|((with_reducible refine ay vI ?_);(refine aU (I9 (x:=x) ok hs0 ⟨_,_,_,_,_,_,_,_,_,_,_,_,_,_,_,_,_,_,_,_,_,_,rfl,rfl,ah,ah,ah,ah,ah,ah,ah,ah,ah,ah,ah⟩) ?_ ?_<;>intro hn))|((with_reducible refine ay bI ?_);(refine cZ (iw) ?_ ?_<;>intro hb<;>(first|replace hb:=dD hb|replace hb:=dH hb)))|((with_reducible refine aP ?_);((refine ix ?_);rintro _ _ _ _ _ ⟨_,_,_,_,rfl,rfl,_,_⟩ _))|fail)
   all_goals try(exfalso;first|omega|exact absurd hw.1 (by assumption))
   refine aG (aey (t:=t) (d:=d) w ht hd htk.1 hI.n1 hs1 hI.V6 htk.2.1) ?_
   intro v2 h2 hst
   cases hL:(gJ x k' t).map kE with
   |none=>
    rw[hL] at hst
    obtain⟨rfl,kk⟩:=hst
    have nx:h.n ∉ B::G.a:=fun hm=>by
     rcases List.mem_cons.1 hm with q|q
     ·omega
     ·have:=(w.own.1.2 _ q).1;omega
    have bx2:=bJ kk bx nx
    (repeat' first|refine vsx ?_|fail)
    exact xJ w bz rfl e (by omega) kk (CP x hs0) r0'
   |some y=>
    rw[hL] at hst
    obtain⟨rfl,W⟩:=hst
    (repeat' first|refine vsx ?_|fail)
    exact amg w bz rfl e (by omega) W
  ·rw[zu fun c=>hg (by obtain⟨t',ht',q⟩:=c.2.2;simp only[Int.toNat_natCast] at ht';rw[ht] at ht';cases ht';exact q)]
   (repeat' first|refine vs ?_|(refine br ?_ ?_<;>first|exact bo|intro _)|((with_reducible refine ay vI ?_);(refine aU (I9 (x:=x) ok hs0 ⟨_,_,_,_,_,_,_,_,_,_,_,_,_,_,_,_,_,_,_,_,_,_,rfl,rfl,ah,ah,ah,ah,ah,ah,ah,ah,ah,ah,ah⟩) ?_ ?_<;>intro hn))|((with_reducible refine ay bI ?_);(refine cZ (iw) ?_ ?_<;>intro hb<;>(first|replace hb:=dD hb|replace hb:=dH hb)))|((with_reducible refine aP ?_);((refine ix ?_);rintro _ _ _ _ _ ⟨_,_,_,_,rfl,rfl,_,_⟩ _))|((with_reducible refine bF ?_);simp only[g0,g1,g2]))
   all_goals first
    |(exfalso;first|omega|exact absurd hw.1 (by assumption))
    |exact xJ w bz rfl e (by omega) (Kp.refl _ _) (CP x hs0) r0'
 ·rw[zu fun c=>hw ⟨c.1,c.2.1⟩]
  (repeat' first|refine vs ?_|((with_reducible refine ay vI ?_);(refine aU (I9 (x:=x) ok hs0 ⟨_,_,_,_,_,_,_,_,_,_,_,_,_,_,_,_,_,_,_,_,_,_,rfl,rfl,ah,ah,ah,ah,ah,ah,ah,ah,ah,ah,ah⟩) ?_ ?_<;>intro hn))|((with_reducible refine ay bI ?_);(refine cZ (iw) ?_ ?_<;>intro hb<;>(first|replace hb:=dD hb|replace hb:=dH hb)))|((with_reducible refine bF ?_);simp only[g0,g1,g2]))
  all_goals first
   |exact absurd ⟨by assumption,by omega⟩ hw
   |exact xJ w bz rfl e (by omega) (Kp.refl _ _) (CP x hs0) r0'
end Go.Proofs.YtekfdoknfcedpaaGreat
