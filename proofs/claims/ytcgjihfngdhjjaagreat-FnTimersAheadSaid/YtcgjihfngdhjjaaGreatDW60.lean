import Derived.Test.YtcgjihfngdhjjaaGreatDKW3
import Derived.Test.YtcgjihfngdhjjaaGreatDKW2
import Derived.Test.YtcgjihfngdhjjaaGreatDW9
import Derived.Test.YtcgjihfngdhjjaaGreatDKW4
section
set_option linter.unusedSimpArgs false
set_option linter.unusedVariables false
set_option maxHeartbeats 8000000
namespace Go.Proofs.YtcgjihfngdhjjaaGreat
open Go Go.Ab
section
end
def GR (x:Wld):Prop:=Ms x∧(x.tasks.length:Int)=5∧ahQ x∧aja x
end Go.Proofs.YtcgjihfngdhjjaaGreat
end
section
set_option linter.unusedSimpArgs false
set_option linter.unusedVariables false
set_option maxHeartbeats 4000000
namespace Go.Proofs.YtcgjihfngdhjjaaGreat
open Go Go.Ab
section
def QE (x0:AV):Prog:=.op (.box x0) fun a=>Ld 32 a fun b=>Cl Ez [b] fun b=>.gop b true (.ldn 32 a) fun c=>.gop b true (.call EU [c]) fun c=>Pk b c (.bool false) fun b=>.gop b true (.ldn 32 a) fun a=>.gop b true (.call EA [a]) fun a=>Pk b a (.bool false) fun a=>.fin [.val a]
theorem ac2 (x0:AV):CC Tryz.prog l7 [x0] (QE x0):=cc Tryz.func13
end
theorem agN {w:bn} (h:kK w):∀ t∈timers w,1≤t.id∧(1≤t.trace∧t.trace≤999):=by
 obtain⟨-,h1,h2,h3,h4,-⟩:=h
 intro t ht
 unfold timers at ht
 rcases List.mem_append.1 ht with ht|ht
 ·rcases List.mem_append.1 ht with ht|ht
  ·obtain⟨a,ha,hta⟩:=List.mem_flatten.1 ht
   obtain⟨i,hi⟩:=List.mem_iff_getElem?.1 ha
   have hlt:=(List.getElem?_eq_some_iff.1 hi).1
   obtain⟨b,hb,-,-⟩:=aU (show i < w.far.length by omega)
   have k:=(h4 i a b hi hb).1 t hta
   exact⟨k.1,k.2.1⟩
  ·obtain⟨b,hb,htb⟩:=List.mem_flatten.1 ht
   obtain⟨i,hi⟩:=List.mem_iff_getElem?.1 hb
   have hlt:=(List.getElem?_eq_some_iff.1 hi).1
   obtain⟨a,ha,-,-⟩:=aU (show i < w.near.length by omega)
   have k:=(h4 i a b ha hi).2 t htb
   exact⟨k.1,k.2.1⟩
 ·have k:=h3 t ht
  exact⟨k.1,k.2.1⟩
theorem VU {n:Nat} {l:List Task}:∀ {k:Nat} {hs:List Int} {r:Int},dB n l k=some (hs,r)→-1≤r∧r < k
 |0,hs,r,h=>by simp only[dB,Option.some.injEq,Prod.mk.injEq] at h;omega
 |k+1,hs,r,h=>by
  rcases e:dB n l k with _|⟨hs0,r0⟩
  ·simp[dB,e] at h
  ·rcases e2:l[k]? with _|t
   ·simp[dB,e,e2] at h
   ·have ih:=VU e
    simp only[dB,e,e2,zu] at h
    rcases e3:kR n hs0 k t with _|a
    ·simp[e3] at h
    ·rcases e4:kS r0 k t with _|b
     ·simp[e4] at h
     ·simp only[e3,e4,Option.some.injEq,Prod.mk.injEq] at h
      unfold kS at e4
      split at e4
      ·split at e4
       ·simp at e4;omega
       ·cases e4
      ·simp at e4;omega
theorem LH {l:List aR} {t:Trail}:t∈allT l↔∃ s∈l,t∈s.l:=by unfold allT;exact List.mem_flatMap
theorem T9 {x:Wld}:(Ms x∧(-1≤x.bg∧x.bg≤4)∧XP x)∧WK x∧Vz x↔GR x:=by
 have hmem:∀ n,n∈GY x↔(∃ t∈eO x,t.id=n)∨(∃ v∈x.cache,v.stamp=n)∨(∃ t∈x.tasks,t.stamp=n)∨∃ t∈allT x.st,t.stamp=n:=by
  intro n;unfold GY;simp only[List.mem_append,List.mem_map]
 constructor
 ·rintro⟨⟨hv,hr,hd⟩,⟨h5,ht,hl⟩,hk,hn⟩
  refine⟨hv,h5,⟨?_,?_,?_⟩,?_,hl⟩
  ·intro i s hs t hts
   have hm:t∈allT x.st:=LH.2 ⟨s,List.mem_of_getElem? hs,hts⟩
   exact⟨hn _ ((hmem _).2 (.inr (.inr (.inr ⟨t,hm,rfl⟩)))),hk t hm⟩
  ·intro v hv2
   exact hn _ ((hmem _).2 (.inr (.inl ⟨v,hv2,rfl⟩)))
  ·intro t ht2
   have h1:=hn _ ((hmem _).2 (.inl ⟨t,ht2,rfl⟩))
   have h2:1≤t.id∧(1≤t.trace∧t.trace≤999):=by
    rcases List.mem_append.1 ht2 with h|h
    ·exact agN hv.2.2.2.2.2.2.2.2.2.2.2.2.1 t h
    ·exact hd t h
   omega
  ·intro k t hkt
   exact⟨ht k t hkt,hn _ ((hmem _).2 (.inr (.inr (.inl ⟨t,List.mem_of_getElem? hkt,rfl⟩))))⟩
 ·rintro⟨hv,h5,⟨hA,hB,hC⟩,hT,hl⟩
  obtain⟨hs,r,hlk,hh,hr⟩:=hl
  have hrb:=VU hlk
  refine⟨⟨hv,by omega,fun t ht=>?_⟩,⟨h5,fun k t hk=>(hT k t hk).1,hs,r,hlk,hh,hr⟩,fun t ht=>?_,fun n hn=>?_⟩
  ·have:=hC t (List.mem_append_right _ ht);omega
  ·obtain⟨s,hs,hts⟩:=LH.1 ht
   obtain⟨i,hi⟩:=List.mem_iff_getElem?.1 hs
   exact(hA i s hi t hts).2
  ·rcases(hmem n).1 hn with⟨t,ht,rfl⟩|⟨v,hv,rfl⟩|⟨t,ht,rfl⟩|⟨t,ht,rfl⟩
   ·have:=hC t ht;omega
   ·exact hB v hv
   ·obtain⟨i,hi⟩:=List.mem_iff_getElem?.1 ht
    exact(hT i t hi).2
   ·obtain⟨s,hs,hts⟩:=LH.1 ht
    obtain⟨i,hi⟩:=List.mem_iff_getElem?.1 hs
    exact(hA i s hi t hts).1
theorem Ka {h:AH} {x:Wld} {cs:List AV} {F:List Nat} (ok:Cel.ok x) (hs:Sz.sz x≤67108864) (r:Cel.rep h x cs F):
  aP Tryz.prog l7 [.agg cs] h (.bool (bp (GR x))):=by
 obtain⟨v0,v1,v2,v3,v4,v5,v6,v7,v8,v9,v10,F0,F1,F2,F3,F4,F5,F6,F7,F8,F9,F10,rfl,rfl,r0,r1,r2,r3,r4,r5,r6,r7,r8,r9,r10⟩:=r
 refine reader (ac2 _) (by simp only[old]) ?_
 unfold QE
 (repeat' first|refine vs ?_|((with_reducible refine aG Ez ?_);(refine bC (abj (x:=x) ok hs ⟨_,_,_,_,_,_,_,_,_,_,_,_,_,_,_,_,_,_,_,_,_,_,rfl,rfl,aB,aB,aB,aB,aB,aB,aB,aB,aB,aB,aB⟩) ?_ ?_<;>intro hn))|((with_reducible refine aG EU ?_);(refine bC (ach (x:=x) ok hs ⟨_,_,_,_,_,_,_,_,_,_,_,_,_,_,_,_,_,_,_,_,_,_,rfl,rfl,aB,aB,aB,aB,aB,aB,aB,aB,aB,aB,aB⟩) ?_ ?_<;>intro hn))|((with_reducible refine aG EA ?_);(refine bC (abk (x:=x) hs ⟨_,_,_,_,_,_,_,_,_,_,_,_,_,_,_,_,_,_,_,_,_,_,rfl,rfl,aB,aB,aB,aB,aB,aB,aB,aB,aB,aB,aB⟩) ?_ ?_<;>intro hn))|fail)
 all_goals first
  |exact pt (T9.1 ⟨by assumption,by assumption,by assumption⟩)
  |exact pf fun k=>by have k:=T9.2 k;first|exact absurd k.1 (by assumption)|exact absurd k.2.1 (by assumption)|exact absurd k.2.2 (by assumption)
end Go.Proofs.YtcgjihfngdhjjaaGreat
end
section
set_option linter.unusedSimpArgs false
set_option linter.unusedVariables false
set_option maxHeartbeats 8000000
namespace Go.Proofs.YtcgjihfngdhjjaaGreat
open Go Go.Ab
section
end
def ku (x:Wld) (trace:Int):Int:=match x.st[(stripe trace x.st.length).toNat]? with
 |some s=>s.held
 |none=>-1
theorem GJ {x:Wld} {trace:Int} {s:aR} (h:x.st[(stripe trace x.st.length).toNat]? =some s):ku x trace=s.held:=by unfold ku;rw[h]
noncomputable def ai2 (x:Wld) (t:Task):Int:=
 if t.op=1∧t.pc=0 then ku x t.s.trace
 else if t.op=1∧t.pc=2 then(match oldest (allT x.st) with|some o=>ku x o.id|none=>-1)
 else if t.op=2∧t.pc=0 then ku x t.trace
 else if t.op=2∧t.pc=1 then x.bg else -1
noncomputable def waits (x:Wld) (k:Int):Int:=if bp (GR x∧(0≤k∧k≤4))=true then(match x.tasks[k.toNat]? with|some t=>ai2 x t|none=>-1) else -1
end Go.Proofs.YtcgjihfngdhjjaaGreat
end
section
set_option linter.unusedSimpArgs false
set_option linter.unusedVariables false
set_option maxHeartbeats 4000000
namespace Go.Proofs.YtcgjihfngdhjjaaGreat
open Go Go.Ab
section
def O8 (x0:AV):Prog:=.op (.box x0) fun a=>.op (.alloc jh) fun b=>Ld 12 a fun c=>Cl FB [c] fun c=>.op (.una .not c) fun c=>.ite c (.op (.build jh []) fun a=>.op (.st 32 b a) fun _=>.fin [.cn 32 b]) (Ld 12 a fun c=>Cl A9 [c] fun c=>.op (.alloc zy) fun d=>.op (.st 12 d c) fun _=>Ld 12 d fun c=>Lg 5 a fun e=>Lg 6 a fun f=>.op (.alloc jh) fun i=>Cl El [e,f] fun e=>.chk (.ldn 12 d) c (.chk (.alloc jh) i (Cl AX [] fun f=>.chk (.ldn 12 d) c (.chk (.alloc jh) i (.op (.build jh [(0,12,c),(15,1,.int .i64 (-1)),(16,4,e),(22,4,f),(31,1,.int .i64 1)]) fun c=>.op (.st 32 i c) fun _=>.loop [.int .i64 0] (fun b=>Lg 0 a fun a=>Bn .lss (g b 0) a fun a=>.ite a (Lg 14 i fun a=>.op (.build [.int .i64 0,.aA] [(0,1,.int .i64 (-1))]) fun c=>.op (.aS 2 1 [.int .i64 0,.aA] [(0,2,c)]) fun c=>.op (.app 2 32 a c) fun a=>Sg 14 i a fun _=>Bn .add (g b 0) (.int .i64 1) fun a=>.leaf 0 [a]) (.leaf 2 [g b 0])) fun a c=>aC a 1 (.leaf 1 c) (aC a 2 (.loop [.int .i64 0] (fun a=>Bn .lss (g a 0) (.int .i64 5) fun b=>.ite b (Lg 29 i fun b=>.op (.build ji []) fun c=>.op (.aS 12 1 ji [(0,12,c)]) fun c=>.op (.app 12 128 b c) fun b=>Sg 29 i b fun _=>Bn .add (g a 0) (.int .i64 1) fun a=>.leaf 0 [a]) (.leaf 4 [g a 0])) fun a c=>aC a 1 (.leaf 1 c) (aC a 4 (Ld 32 i fun a=>.op (.st 32 b a) fun _=>.fin [.cn 32 b]) .bad)) .bad))))))
theorem abw (x0:AV):CC Tryz.prog J2 [x0] (O8 x0):=cc Tryz.func29 [1,2,4,5,6] (fun r=>if r=4 then[(0,[]),(1,[]),(2,[]),(3,[]),(4,[]),(8,[]),(5,[0,8]),(6,[0,8]),(7,[]),(9,[])] else[])
end
def jW:aR:=⟨-1,[]⟩
def iA:Span:=⟨0,0,0,0,false,[]⟩
def dX:Task:=⟨0,0,iA,0,0,[],0⟩
def VO:Wld:=⟨⟨0,0,0,0,0,0,0,.mk 0 0 ⟨#[]⟩ ⟨#[]⟩ []⟩,0,false,[],0,⟨0,0,0,0⟩,[],0,⟨0,[],[],[]⟩,[],[],[],[],[],0⟩
noncomputable def sG (c:iQ):Wld:=if bp (nI c)=true then⟨c,0,false,List.replicate c.dK.toNat jW,-1,⟨c.rate,c.aZ,c.aZ,0⟩,[],0,BQ,[],[],[],List.replicate 5 dX,[],1⟩ else VO
theorem KW {c:iQ} (h:nI c):sG c=⟨c,0,false,List.replicate c.dK.toNat jW,-1,⟨c.rate,c.aZ,c.aZ,0⟩,[],0,BQ,[],[],[],List.replicate 5 dX,[],1⟩:=by unfold sG;rw[if_pos (fK h)]
theorem afj {c:iQ} (h: ¬ nI c):sG c=VO:=by unfold sG;rw[if_neg (by rw[gM h];decide)]
theorem abb {h:AH} {c:iQ} {v:AV} {F:List Nat} (ok:Cel.ok c.rule) (hs:Sz.sz c≤67108864) (r:ah h v c.rule.l F):bq Tryz.prog J2 [.agg (c.cs v)] h (YV Wld h (sG c)):=by
 have hsz:Sz.sz c=Sz.sz c.rule:=rfl
 refine abw _ ?_
 unfold O8
 (repeat' first|refine vs ?_|((with_reducible refine iN ?_);refine iM aO ?_)|((with_reducible refine aG FB ?_);(refine bC (adt ok (by omega) aB) ?_ ?_<;>intro hn))|((with_reducible refine aG A9 ?_);(refine aL (PS c (by omega) _ _ _ ⟨_,rfl,aB⟩) ?_;rintro _ h1 ⟨e1,_,G0,rfl,⟨w0,rfl,q0⟩,o0⟩;have n1:=e1.1;(try simp only[aJ,aN] at n1)))|((with_reducible refine aG El ?_);refine aQ aaF ?_)|((with_reducible refine aG AX ?_);(refine aL OX ?_;rintro _ h2 ⟨e2,_,_,rfl,⟨w3,w4,w5,F3,F4,F5,rfl,rfl,q3,q4,q5⟩,o2⟩;have n2:=e2.1;(try simp only[aJ,aN] at n2)))|refine gS ?_|fail)
 ·have hsN:(1:Int)≤c.dK∧c.dK≤3:=hn.1
  refine aX c.dK.toNat (fun i vs h4=>∃ u G,vs=[.int .i64 (i:Int)]∧(i:Int)≤c.dK∧Bk h4 (h1.n+1) [.int .i64 c.dK,.int .i64 c.wait,.int .i64 c.budget,.int .i64 c.cache,.int .i64 c.queue,.int .i64 c.rate,.int .i64 c.aZ,.int .i64 c.rule.kind,.int .i64 c.rule.n,.str c.rule.key,.str c.rule.text,w0,.int .i64 0,.bool false,u,.int .i64 (-1),.int .i64 c.rate,.int .i64 c.aZ,.int .i64 c.aZ,.int .i64 0,.aA,.int .i64 0,.int .i64 BQ.now,w3,w4,w5,.aA,.aA,.aA,.aA,.aA,.int .i64 1] 0∧Bk h4 h.n (c.cs v) 0∧Bk h4 (h.n+1) [AV.int .i64 0,AV.int .i64 0,AV.int .i64 0,AV.int .i64 0,AV.int .i64 0,AV.int .i64 0,AV.int .i64 0,AV.int .i64 0,AV.int .i64 0,AV.str ⟨#[]⟩,AV.str ⟨#[]⟩,AV.aA,AV.int .i64 0,AV.bool false,AV.aA,AV.int .i64 0,AV.int .i64 0,AV.int .i64 0,AV.int .i64 0,AV.int .i64 0,AV.aA,AV.int .i64 0,AV.int .i64 0,AV.aA,AV.aA,AV.aA,AV.aA,AV.aA,AV.aA,AV.aA,AV.aA,AV.int .i64 0] 0∧Kp h2 h4 [h1.n+1]∧ah h4 u (List.replicate i jW) G∧Own h2.n h4 G) ?_ ?_
  ·exact⟨.aA,[],rfl,by omega,aO,aO,aO,(Kp.refl _ _).qX (by simp) _,ah.aA,Own.nil⟩
  rintro i vs h4 _ ⟨u,G,rfl,hi,b3,b0,b1,k4,ru,ou⟩
  have n4:=k4.1
  simp only[g0]
  have bo:h.n+1+1≤h1.n:=by omega
  have h12:h1.n+1+1≤h2.n:=n2
  (repeat' first|refine vs ?_|(refine br ?_ ?_<;>first|exact bx|intro _)|fail)
  ·refine app1 (n:=h2.n) (xs:=List.replicate i jW) (Fx:=G) (a:=jW) aB ⟨.aA,rfl,ah.aA⟩ (by rw[List.append_nil];exact aY) aV rfl ?_ ?_ ?_
   ·simp;omega
   ·simp;omega
   intro u' h' F' ek kp r' o'
   have n5:=kp.1
   (repeat' first|refine vs ?_|fail)
   exact⟨by omega,u',F',rfl,by omega,aO,aO,aO,(k4.new kp fun x hx=>(ou.2 x hx).1).qX (by simp) _,by rw[show List.replicate (i+1) jW=List.replicate i jW++[jW] from List.replicate_succ'];exact aB,aY⟩
  have hi2:c.dK.toNat=i:=by omega
  refine aX 5 (fun j vs h5=>∃ t G',vs=[.int .i64 (j:Int)]∧j≤5∧Bk h5 (h1.n+1) [.int .i64 c.dK,.int .i64 c.wait,.int .i64 c.budget,.int .i64 c.cache,.int .i64 c.queue,.int .i64 c.rate,.int .i64 c.aZ,.int .i64 c.rule.kind,.int .i64 c.rule.n,.str c.rule.key,.str c.rule.text,w0,.int .i64 0,.bool false,u,.int .i64 (-1),.int .i64 c.rate,.int .i64 c.aZ,.int .i64 c.aZ,.int .i64 0,.aA,.int .i64 0,.int .i64 BQ.now,w3,w4,w5,.aA,.aA,.aA,t,.aA,.int .i64 1] 0∧Bk h5 (h.n+1) [AV.int .i64 0,AV.int .i64 0,AV.int .i64 0,AV.int .i64 0,AV.int .i64 0,AV.int .i64 0,AV.int .i64 0,AV.int .i64 0,AV.int .i64 0,AV.str ⟨#[]⟩,AV.str ⟨#[]⟩,AV.aA,AV.int .i64 0,AV.bool false,AV.aA,AV.int .i64 0,AV.int .i64 0,AV.int .i64 0,AV.int .i64 0,AV.int .i64 0,AV.aA,AV.int .i64 0,AV.int .i64 0,AV.aA,AV.aA,AV.aA,AV.aA,AV.aA,AV.aA,AV.aA,AV.aA,AV.int .i64 0] 0∧Kp h4 h5 [h1.n+1]∧ah h5 t (List.replicate j dX) G'∧Own h4.n h5 G') ?_ ?_
  ·exact⟨.aA,[],rfl,by omega,aO,aO,Kp.refl _ _,ah.aA,Own.nil⟩
  rintro j vs h5 _ ⟨t,G',rfl,hj,b3',b1',k5,rt,ot⟩
  have n5:=k5.1
  simp only[g0]
  (repeat' first|refine vs ?_|(refine br ?_ ?_<;>first|exact bx|intro _)|fail)
  ·refine app1 (n:=h4.n) (xs:=List.replicate j dX) (Fx:=G') (a:=dX) aB ⟨.aA,.aA,[],[],rfl,rfl,ah.aA,ah.aA⟩ (by simp only[List.append_nil];exact aY) aV rfl ?_ ?_ ?_
   ·simp;omega
   ·simp;omega
   intro u' h' F' ek kp r' o'
   have n5:=kp.1
   (repeat' first|refine vs ?_|fail)
   exact⟨by omega,u',F',rfl,by omega,aO,aO,(k5.new kp fun x hx=>(ot.2 x hx).1).qX (by simp) _,by rw[show List.replicate (j+1) dX=List.replicate j dX++[dX] from List.replicate_succ'];exact aB,aY⟩
  ·have hj2:j=5:=by omega
   subst hj2
   have o3:=fB o2
   have o4:=fB (dI o2)
   have o5:=dI (dI o2)
   have d3:=vH o2
   have d4:=vH (dI o2)
   have tc:h1.n+1 ∉ G':=Cg ot (by omega)
   have d34:=XT d3
   have d35:=XR d3
   refine⟨rfl,_,rfl,(k5.ext (k4.ext (aI:Ext h h2) (by simp;omega)) (by simp;omega)).upd (by simp) _,_,G0++(G++([]++(F3++(F4++(F5++([]++([]++([]++(G'++[]))))))))),rfl,?_,?_⟩
   ·rw[KW hn,hi2]
    exact⟨w0,u,.aA,w3,w4,w5,.aA,.aA,.aA,_,.aA,G0,G,[],F3,F4,F5,[],[],[],_,[],rfl,rfl,aB,aB,ah.aA,aB,aB,aB,ah.aA,ah.aA,ah.aA,aB,ah.aA⟩
   ·simp only[List.nil_append,List.append_nil]
    exact(iI gN (iI gN (iI gN (iI gN (iI gN gN j6) j6) j6) j6) j6).1
 ·exact⟨rfl,_,rfl,aI,_,_,rfl,by rw[afj hn];exact⟨_,_,_,_,_,_,_,_,_,_,_,[],[],[],[],[],[],[],[],[],[],[],rfl,rfl,ah.aA,ah.aA,ah.aA,ah.aA,ah.aA,ah.aA,ah.aA,ah.aA,ah.aA,ah.aA,ah.aA⟩,Own.nil⟩
end Go.Proofs.YtcgjihfngdhjjaaGreat
end
section
set_option linter.unusedSimpArgs false
set_option linter.unusedVariables false
namespace Go.Proofs.YtcgjihfngdhjjaaGreat
open Go Go.Ab
def wr (n:Int):Int:=IntKind.i64.wrap n
theorem xE {n:Int} (h1: -9223372036854775808≤n) (h2:n≤9223372036854775807):wr n=n:=kJ h1 h2
def nT (a b:Int):Int:=cap (cap a - cap b)
def vP (a b:Int):Int:=cap (cap a * cap b)
noncomputable def pE (b:Bucket) (now:Int):Bucket:=if bp (iT b∧b.at_≤now∧now≤2147483647)=true then⟨b.rate,b.aZ,min (cK b.tokens (vP b.rate (nT now b.at_))) b.aZ,now⟩ else b
noncomputable def vB (b:Bucket) (n:Int):Bool:=bp (iT b∧0≤n∧n≤b.tokens)
noncomputable def kM (b:Bucket) (n:Int):Bucket:=if vB b n=true then{b with tokens:=b.tokens - n} else b
def lenOf (s:Span):Int:=nT s.fin s.start
def errs (l:List Span):Nat:=(l.filter (·.err)).length
def xM (l:List Attr) (key:ByteArray):Option Attr:=l.find? fun a=>decide (a.key=key)
def LA (key text:ByteArray) (s:Span):Prop:=∃ a,xM s.attrs key=some a∧a.num=false∧a.text=text
def Ma (key:ByteArray) (n:Int) (s:Span):Prop:=∃ a,xM s.attrs key=some a∧a.num=true∧n≤a.n
mutual
def jU (l:List Span) (n:Int):Pol→Prop
 | .mk k pn key text ps=>(k=1→True)∧(k=2→0 < errs l)∧(k=3→∃ s∈l,pn≤lenOf s)∧(k=4→∃ s∈l,LA key text s)∧(k=5→∃ s∈l,Ma key pn s)∧(k=6→(l.length:Int)≤n)∧(k=7→Cx l n ps)∧(k=8→Cw l n ps)∧(k=9→Hw l n ps)∧(1≤k∧k≤9)
def Cx (l:List Span) (n:Int):List Pol→Prop
 |[]=>True
 |p::ps=>jU l n p∧Cx l n ps
def Cw (l:List Span) (n:Int):List Pol→Prop
 |[]=>False
 |p::ps=>jU l n p∨Cw l n ps
def Hw (l:List Span) (n:Int):List Pol→Prop
 |[]=>True
 |p::ps=>¬ jU l n p
end
mutual
def rA:Pol→Prop
 | .mk k _ _ _ ps=>k=6∨Da ps
def Da:List Pol→Prop
 |[]=>False
 |p::ps=>rA p∨Da ps
end
noncomputable def zO (p:Pol) (l:List Span) (n:Int):Bool:=bp (jU l n p)
noncomputable def xw (p:Pol) (l:List Span) (n:Int):Int:=if zO p l n=true then(if bp (rA p)=true then min (l.length:Int) (cap n) else 0) else 0
def dV (w:bn) (t:Ab.Timer):bn:=
 if t.at_ / 8=w.now / 8 then{w with near:=upd w.near (t.at_ % 8).toNat (· ++[t])}
 else if t.at_ / 8 - w.now / 8 < 8 then{w with far:=upd w.far (t.at_ / 8 % 8).toNat (· ++[t])}
 else{w with rest:=w.rest++[t]}
noncomputable def Ap (w:bn) (t:Ab.Timer):Bool:=bp ((kK w∧w.now < t.at_∧t.at_≤2147483647)∧kK (dV w t))
noncomputable def gX (w:bn) (t:Ab.Timer):bn:=if Ap w t=true then dV w t else w
def without (id:Int) (l:List Ab.Timer):List Ab.Timer:=l.filter fun t=>!(nQ id t)
noncomputable def eP (w:bn) (id:Int):bn:=if bp (kK w)=true then⟨w.now,w.near.map (without id),w.far.map (without id),without id w.rest⟩ else w
noncomputable def pF (x:Wld) (k:Nat) (s:Span):Wld:=
 if bp (fits x.c s)=true then{x with tasks:=x.tasks.set k ⟨1,0,s,0,0,[],x.aF.length⟩,aF:=x.aF++[⟨1,k,s,0,0,0,false,false,0,0,0,x.w.now,x.time,-1,-1⟩],time:=wr (x.time+1)}
 else{x with aF:=x.aF++[⟨1,k,s,0,0,5,false,false,0,0,0,x.w.now,x.time,x.time,x.time⟩],time:=wr (x.time+1)}
def mE (x:Wld) (k:Nat):Wld:=match x.due with
 |[]=>x
 |t::rest=>{x with due:=rest,tasks:=x.tasks.set k ⟨2,0,iA,t.trace,t.id,[],x.aF.length⟩,aF:=x.aF++[⟨2,k,iA,t.trace,t.id,0,false,false,0,0,0,x.w.now,x.time,-1,-1⟩],time:=wr (x.time+1)}
def lT (x:Wld) (k:Nat) (t:Task) (code stamp:Int):Wld:={x with aF:=upd x.aF t.h.toNat (fun d=>{d with code:=code,stamp:=stamp,lin:=x.time,res:=x.time,now:=x.w.now}),st:=fD x.st t.s.trace (-1),tasks:=x.tasks.set k dX}
def kI (x:Wld) (t:Task):Int:=if fH x.st t.s.trace=true then(dY x.st t.s.trace).stamp else x.next
noncomputable def lu (x:Wld) (t:Task):Wld:={x with
 next:=if fH x.st t.s.trace=true then x.next else wr (x.next+1)
 w:=if fH x.st t.s.trace=true then x.w else gX x.w ⟨x.next,t.s.trace,cK x.w.now x.c.wait⟩
 st:=upd x.st (stripe t.s.trace x.st.length).toNat fun s=>{s with l:=lH s.l t.s (kI x t) x.w.now}
 used:=wr (x.used+dR t.s)}
noncomputable def lookW (x:Wld) (k:Nat) (t:Task):Option Wld:=
 if x.shut=true then some (lT x k t 4 0)
 else if(vOf x.cache t.s.trace).2=true then
  (if(vOf x.cache t.s.trace).1.keep=true then
   (if x.c.queue≤(x.queue.length:Int) then none else some (lT {x with queue:=x.queue++[⟨(vOf x.cache t.s.trace).1.stamp,t.s⟩]} k t 2 (vOf x.cache t.s.trace).1.stamp))
  else some (lT x k t 3 (vOf x.cache t.s.trace).1.stamp))
 else if x.c.budget < wr (x.used+dR t.s) then some {x with st:=fD x.st t.s.trace (-1),tasks:=x.tasks.set k {t with pc:=2}}
 else some (lT (lu x t) k t 1 (kI x t))
noncomputable def pQ (x:Wld) (k:Nat) (t:Task):Option Wld:=match oldest (allT x.st) with
 |none=>some {x with tasks:=x.tasks.set k {t with pc:=0}}
 |some o=>if ku x o.id≠-1 then none else some {x with st:=fD x.st o.id k,tasks:=x.tasks.set k {t with pc:=3,trace:=o.id,stamp:=o.stamp}}
noncomputable def oQ (x:Wld) (o:Trail) (keep:Bool):Wld:={x with st:=fU x.st o.id,used:=wr (x.used - dW o),cache:=(rem x.cache ⟨o.id,o.stamp,keep⟩ x.c.cache).1}
noncomputable def ko (x:Wld) (o:Trail) (keep:Bool):Int:=(rem x.cache ⟨o.id,o.stamp,keep⟩ x.c.cache).2
noncomputable def jY (x:Wld) (t:Task) (k:Nat):Wld:=
 if fH x.st t.trace=true∧(dY x.st t.trace).stamp=t.stamp∧x.c.budget < wr (x.used+dR t.s) then
  {oQ x (dY x.st t.trace) false with
   w:=eP x.w (dY x.st t.trace).stamp
   aF:=x.aF++[⟨3,k,iA,(dY x.st t.trace).id,(dY x.st t.trace).stamp,0,false,false,0,(dY x.st t.trace).spans.length,ko x (dY x.st t.trace) false,x.w.now,x.time,x.time,x.time⟩]}
 else x
noncomputable def pV (x:Wld) (k:Nat) (t:Task):Wld:={jY x t k with st:=fD (jY x t k).st t.trace (-1),tasks:=x.tasks.set k {t with pc:=0,trace:=0,stamp:=0}}
noncomputable def jl (x:Wld) (k:Nat) (t:Task):Option Wld:=
 if t.pc=0 then(if ku x t.s.trace≠-1 then none else some {x with st:=fD x.st t.s.trace k,tasks:=x.tasks.set k {t with pc:=1}})
 else if t.pc=1 then lookW x k t
 else if t.pc=2 then pQ x k t
 else some (pV x k t)
def cB (x:Wld):Wld:={x with time:=wr (x.time+1)}
noncomputable def zL (x:Wld) (t:Task):Prop:=fH x.st t.trace=true∧(dY x.st t.trace).stamp=t.stamp
noncomputable def vO (x:Wld):Bucket:=pE x.b x.w.now
noncomputable def qg (x:Wld) (t:Task):Bool:=zO x.c.rule (dY x.st t.trace).spans (vO x).tokens
noncomputable def qc (x:Wld) (t:Task):Int:=xw x.c.rule (dY x.st t.trace).spans (vO x).tokens
noncomputable def qY (x:Wld) (t:Task):List Itm:=if qg x t=true then(dY x.st t.trace).spans.map fun s=>⟨t.stamp,s⟩ else[]
def mQ (x:Wld) (k:Nat) (t:Task) (hand:List Itm):Wld:={x with
 st:=fD x.st t.trace (-1),bg:=-1
 aF:=if hand.length=0 then upd x.aF t.h.toNat (fun d=>{d with res:=x.time}) else x.aF
 tasks:=if hand.length=0 then x.tasks.set k dX else x.tasks.set k {t with pc:=3,hand:=hand}}
noncomputable def kG (x:Wld) (k:Nat) (t:Task):Wld:=
 if bp (zL x t)=true then
  mQ {oQ x (dY x.st t.trace) (qg x t) with
   b:=kM (vO x) (qc x t)
   aF:=upd x.aF t.h.toNat fun d=>{d with keep:=qg x t,took:=qc x t,n:=(dY x.st t.trace).spans.length,forgot:=ko x (dY x.st t.trace) (qg x t),lin:=x.time,now:=x.w.now}} k t (qY x t)
 else mQ {x with aF:=upd x.aF t.h.toNat fun d=>{d with void:=true,lin:=x.time,now:=x.w.now}} k t []
def pR (x:Wld) (k:Nat) (t:Task):Option Wld:=match t.hand with
 |[]=>none
 |y::ys=>if x.c.queue≤(x.queue.length:Int) then none else some {x with
   queue:=x.queue++[y]
   aF:=if ys.length=0 then upd x.aF t.h.toNat (fun d=>{d with res:=x.time}) else x.aF
   tasks:=if ys.length=0 then x.tasks.set k dX else x.tasks.set k {t with hand:=ys}}
noncomputable def jm (x:Wld) (k:Nat) (t:Task):Option Wld:=
 if t.pc=0 then(if ku x t.trace≠-1 then none else some {x with st:=fD x.st t.trace k,tasks:=x.tasks.set k {t with pc:=1}})
 else if t.pc=1 then(if x.bg≠-1 then none else some {x with bg:=k,tasks:=x.tasks.set k {t with pc:=2}})
 else if t.pc=2 then some (kG x k t)
 else pR x k t
end Go.Proofs.YtcgjihfngdhjjaaGreat
end
