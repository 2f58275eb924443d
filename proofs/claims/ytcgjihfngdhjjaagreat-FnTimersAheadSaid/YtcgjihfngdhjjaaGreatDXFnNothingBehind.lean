import Derived.Test.YtcgjihfngdhjjaaGreatDW40
import Derived.Test.YtcgjihfngdhjjaaGreatDK5
import Derived.Test.YtcgjihfngdhjjaaGreatDXFnLocks
import Derived.Test.YtcgjihfngdhjjaaGreatDW60
import Derived.Test.YtcgjihfngdhjjaaGreatDKW2
section
set_option linter.unusedSimpArgs false
set_option linter.unusedVariables false
set_option maxHeartbeats 2000000
namespace Go.Proofs.YtcgjihfngdhjjaaGreat
open Go Go.Ab
section
def QK (x0 x1 x2:AV):Prog:=.op (.ld1 x2) fun a=>Ix 20 a x0 fun a=>Lg 18 a fun a=>.op (.ld1 x2) fun b=>Ix 20 b x1 fun b=>Lg 18 b fun b=>Cl yC [a,b] fun a=>.fin [.val a]
theorem ac8 (x0 x1 x2:AV):CC Tryz.prog E5 [x0,x1,x2] (QK x0 x1 x2):=cc Tryz.func50 [] (fun r=>if r=1 then[(0,[]),(1,[]),(2,[]),(3,[]),(4,[]),(5,[]),(6,[]),(7,[]),(8,[]),(9,[]),(10,[]),(11,[])] else[])
def SH (x0:AV):Prog:=.op (.box x0) fun a=>.op (.ld1 a) fun b=>Ln 0 b fun c=>.loop [.aA,.int .i64 0] (fun a=>Bn .lss (g a 1) c fun c=>.ite c (Ix 20 b (g a 1) fun b=>Ld 20 b fun b=>.op (.alloc jR) fun c=>.op (.st 20 c b) fun _=>Lg 18 c fun b=>.op (.bin 0 .neq b (.int .i64 (-1))) fun b=>.scope (.ite b (.op (.aS 1 1 [.int .i64 0] [(0,1,g a 1)]) fun b=>.op (.app 1 8 (g a 0) b) fun a=>.leaf 0 [a]) (.leaf 0 [g a 0])) (fun b=>Bn .add (g a 1) (.int .i64 1) fun a=>.leaf 0 [g b 0,a]) fun a b=>aC a 1 (.leaf 1 b) .bad) (.leaf 2 [g a 0,g a 1])) fun b c=>aC b 1 (.leaf 1 c) (aC b 2 (.op (.tY E5 [a]) fun a=>Cl Jy [g c 0,a] fun _=>.fin [.val (g c 0)]) .bad)
theorem aeY (x0:AV):CC Tryz.prog KN [x0] (SH x0):=cc Tryz.func15 [1,3,6,7,8] (fun _=>[])
end
def Af (l:List aW) (j:Nat):Int:=match l[j]? with
 |some d=>d.lin
 |none=>-1
def kT (l:List aW) (i:Nat):List Int:=((List.range i).filter fun j=>decide (Af l j≠-1)).map fun(j:Nat)=>(j:Int)
def qj (l:List aW) (i:Int):Int:=Af l i.toNat
def jD (l:List aW):List Int:=bS (qj l) (kT l l.length)
theorem wN {l:List aW} {j:Nat} {d:aW} (hd:l[j]? =some d):Af l j=d.lin:=by unfold Af;rw[hd]
theorem ajn {l:List aW} {i:Nat} {d:aW} (hd:l[i]? =some d):kT l (i+1)=if d.lin= -1 then kT l i else kT l i++[(i:Int)]:=by
 unfold kT
 rw[List.range_succ,List.filter_append,List.map_append]
 split
 ·rename_i e
  rw[List.filter_cons_of_neg (by rw[wN hd];simpa using e)];simp
 ·rename_i e
  rw[List.filter_cons_of_pos (by rw[wN hd];simpa using e)];simp
theorem aie {l:List aW} {i:Nat} (hi:i≤l.length):∀ x∈kT l i,0≤x∧x.toNat < l.length:=by
 intro x hx
 obtain⟨j,hj,rfl⟩:=List.mem_map.1 hx
 have:=List.mem_range.1 (List.mem_filter.1 hj).1
 omega
theorem acp {h:AH} {b:Nat} {v:AV} {l:List aW} {F:List Nat} {x y:Int} (a:At h b 0 [v]) (r:ah h v l F) (hx:0≤x∧x.toNat < l.length) (hy:0≤y∧y.toNat < l.length):aP Tryz.prog E5 [.int .i64 x,.int .i64 y,.ptr b 0] h (.int .i64 (yg (qj l x) (qj l y))):=by
 obtain⟨hx1,hx2⟩:=hx
 obtain⟨hy1,hy2⟩:=hy
 obtain⟨dx,ex,-,-⟩:=aU hx2
 obtain⟨dy,ey,-,-⟩:=aU hy2
 refine reader (ac8 _ _ _) (by simp only[old]) ?_
 unfold QK
 (repeat' first|refine vs ?_|((with_reducible refine aG yC ?_);refine aQ Ol ?_)|((with_reducible refine bB ?_);((refine ixi ?_);rintro _ _ _ _ _ ⟨_,rfl,_⟩ _))|fail)
 refine pi ?_
 unfold qj
 rw[wN ex,wN ey]
theorem aeA {h:AH} {l:List aW} {v:AV} {F:List Nat} (hs:l.length≤67108864) (r:ah h v l F):bq Tryz.prog KN [v] h (rF Int h (jD l)):=by
 have hsm:=r.small
 refine aeY _ ?_
 unfold SH
 refine tC r.cell ?_
 refine vs ?_
 refine aX l.length (fun i vs h1=>∃ u G,vs=[u,.int .i64 (i:Int)]∧i≤l.length∧Ext h h1∧Bk h1 h.n [v] 0∧h.n+1≤h1.n∧ah h1 u (kT l i) G∧Own (h.n+1) h1 G) ⟨.aA,[],rfl,Nat.zero_le _,aI,aO,by simp,ah.aA,Own.nil⟩ ?_
 rintro i vs h1 _ ⟨u,G,rfl,hi,e1,b1,m1,ru,ou⟩
 simp only[g0,g1]
 refine br (fun hlt=>?_) (fun hge=>?_)
 ·obtain⟨d,hd,-,-⟩:=aU (show i < l.length by omega)
  have hos:=ajn hd
  refine vs ?_
  refine dw r hd rfl ?_
  rintro b o _ Fi a ⟨v0,rfl,r0⟩ _
  (repeat' first|refine vs ?_|(refine br ?_ ?_<;>first|exact bx|intro _)|fail)
  ·rw[if_neg (by assumption)] at hos
   have hlen:(kT l i).length≤i:=by
    unfold kT
    rw[List.length_map]
    have:=List.length_filter_le (fun j=>decide (Af l j≠-1)) (List.range i)
    simpa using this
   refine app1 (n:=h.n+1) (xs:=kT l i) (Fx:=G) (a:=(i:Int)) aB ⟨rfl,rfl⟩ (by rw[List.append_nil];exact aY) aV rfl (by omega) (by omega) ?_
   intro u' h' F' ek kp r' o'
   have n3:=kp.1
   simp only[aJ] at n3
   (repeat' first|refine vs ?_|fail)
   exact⟨by omega,_,_,rfl,by omega,ek h aI (by omega),aO,by omega,by rw[hos];exact r',o'⟩
  ·rw[if_pos (by omega)] at hos
   exact⟨by omega,_,_,rfl,by omega,aI,aO,by simp only[aJ];omega,by rw[hos];exact aB,aY⟩
 ·have hl:i=l.length:=by omega
  subst hl
  (repeat' first|refine vs ?_|refine gS ?_|fail)
  have hin:=aie (l:=l) (Nat.le_refl _)
  refine aL (ag2 (key:=qj l) (U0:=fun x=>0≤x∧x.toNat < l.length) ru ou ?_ hin) ?_
  ·refine⟨E5,[.ptr h.n 0],rfl,fun h2 k2 x y cx cy Fx Fy hx hy rx ry=>?_⟩
   obtain⟨rfl,_⟩:=rx
   obtain⟨rfl,_⟩:=ry
   have rl:ah h2 v l F:=aK k2 (r.ext e1) (Cm r ou (by omega))
   exact acp (xP (bI k2 b1 (Cg ou (by omega)))) rl hx hy
  ·rintro _ h2 ⟨k2,F2,p2,r2,o2⟩
   (repeat' first|refine vs ?_|fail)
   exact⟨rfl,_,rfl,k2.ext e1 fun b hb=>by have:=(ou.2 b hb).1;omega,F2,r2,o2.mono (by omega) fun _ _=>rfl⟩
end Go.Proofs.YtcgjihfngdhjjaaGreat
end
section
set_option linter.unusedSimpArgs false
set_option linter.unusedVariables false
namespace Go.Proofs.YtcgjihfngdhjjaaGreat
open Go Go.Ab
theorem aga {key:Int→Int} {xs ys:List Int} (st:bY key xs ys):xs.Perm ys:=by
 rw[List.perm_iff_count]
 intro a
 have h:=st (key a)
 rw[←List.count_filter (l:=xs) (p:=fun x=>decide (key x=key a)) (by simp),←List.count_filter (l:=ys) (p:=fun x=>decide (key x=key a)) (by simp),h]
theorem aic (l:List aW) (i:Nat):(kT l i).Nodup:=by
 unfold kT List.Nodup
 rw[List.pairwise_map]
 have h:((List.range i).filter fun j=>decide (Af l j≠-1)).Nodup:=List.Nodup.sublist List.filter_sublist List.nodup_range
 unfold List.Nodup at h
 exact h.imp fun hab e=>hab (by omega)
theorem UR (l:List aW):(jD l).Nodup:=by
 unfold jD
 exact(aga (rV (key:=qj l) (xs:=kT l l.length))).nodup_iff.1 (aic l l.length)
theorem BK {l:List aW} {v:Int}:v∈jD l↔∃ (j:Nat) (d:aW),v=(j:Int)∧l[j]? =some d∧d.lin≠-1:=by
 unfold jD
 rw[BH]
 unfold kT
 rw[List.mem_map]
 constructor
 ·rintro⟨j,hj,rfl⟩
  obtain⟨h1,h2⟩:=List.mem_filter.1 hj
  have h1:=List.mem_range.1 h1
  have h2:=of_decide_eq_true h2
  exact⟨j,l[j],rfl,List.getElem?_eq_getElem h1,by rw[wN (List.getElem?_eq_getElem h1)] at h2;exact h2⟩
 ·rintro⟨j,d,rfl,hj,hd⟩
  exact⟨j,List.mem_filter.2 ⟨List.mem_range.2 (List.getElem?_eq_some_iff.1 hj).1,decide_eq_true (by rw[wN hj];exact hd)⟩,rfl⟩
theorem Uj {l:List aW} {i j:Nat} {a b:Int} (hij:i < j) (ha:(jD l)[i]? =some a) (hb:(jD l)[j]? =some b):qj l a≤qj l b:=by
 have h:=sj (key:=qj l) (xs:=kT l l.length)
 obtain⟨hi,ea⟩:=List.getElem?_eq_some_iff.1 ha
 obtain⟨hj,eb⟩:=List.getElem?_eq_some_iff.1 hb
 have:=List.pairwise_iff_getElem.1 h i j hi hj hij
 unfold jD at ea eb
 rw[ea,eb] at this
 exact this
def mD (l:List aW) (i:Nat):Prop:=∃ (j:Nat) (v:Int) (e:aW),j < i∧(jD l)[j]? =some v∧l[v.toNat]? =some e∧e.op=4
section
variable{x:Wld}
theorem ajf {l:List aW}: ¬ mD l 0:=fun⟨j,v,e,hj,_⟩=>by omega
theorem aje {l:List aW} {i:Nat} {v:Int} {d:aW} (hv:(jD l)[i]? =some v) (hd:l[v.toNat]? =some d):mD l (i+1)↔mD l i∨d.op=4:=by
 constructor
 ·rintro⟨j,u,e,hj,hu,he,ho⟩
  rcases Nat.lt_or_ge j i with q|q
  ·exact .inl ⟨j,u,e,q,hu,he,ho⟩
  ·have:j=i:=by omega
   subst this
   rw[hv] at hu;cases hu
   rw[hd] at he;cases he
   exact .inr ho
 ·rintro(⟨j,u,e,hj,hu,he,ho⟩|ho)
  ·exact⟨j,u,e,by omega,hu,he,ho⟩
  ·exact⟨i,v,d,by omega,hv,hd,ho⟩
theorem NB.at (h:NB x) {i:Nat} {v:Int} {d:aW} (hv:(jD x.aF)[i]? =some v) (hd:x.aF[v.toNat]? =some d):(d.op=4→¬ mD x.aF i)∧(d.op=1→d.code≠5→(d.code=4↔mD x.aF i)):=by
 obtain⟨j0,d0,rfl,hj0,hl0⟩:=BK.1 (List.mem_of_getElem? hv)
 rw[Int.toNat_natCast,hj0] at hd;cases hd
 cases hs:x.shut with
 |false=>
  have no: ¬ mD x.aF i:=fun⟨j,u,e,hj,hu,he,ho⟩=>(h.n hs e (List.mem_of_getElem? he)).1 ho
  refine⟨fun o=>absurd o (h.n hs d (List.mem_of_getElem? hj0)).1,fun o c=>⟨fun q=>absurd q ((h.n hs d (List.mem_of_getElem? hj0)).2 o hl0),fun q=>absurd q no⟩⟩
 |true=>
  obtain⟨js,es,hjs,o4,hls,hu,ha⟩:=h.s hs
  have hin:((js:Nat):Int)∈jD x.aF:=BK.2 ⟨js,es,rfl,hjs,hls⟩
  obtain⟨p,hp⟩:=List.mem_iff_getElem?.1 hin
  have key:mD x.aF i↔p < i:=by
   constructor
   ·rintro⟨j,u,e,hj,hu',he,ho⟩
    have hju:=hu u.toNat e he ho
    obtain⟨j1,d1,rfl,-,-⟩:=BK.1 (List.mem_of_getElem? hu')
    rw[Int.toNat_natCast] at hju
    subst hju
    obtain⟨a1,a2⟩:=List.getElem?_eq_some_iff.1 hp
    obtain⟨b1,b2⟩:=List.getElem?_eq_some_iff.1 hu'
    rcases Nat.lt_trichotomy p j with q|q|q
    ·omega
    ·omega
    ·exact absurd (by rw[a2,b2]) (List.pairwise_iff_getElem.1 (UR x.aF) j p b1 a1 q)
   ·intro q
    exact⟨p,js,es,q,hp,by rw[Int.toNat_natCast];exact hjs,o4⟩
  have kl:∀ (j:Nat) (e:aW),x.aF[j]? =some e→qj x.aF ((j:Nat):Int)=e.lin:=fun j e he=>by
   unfold qj;rw[Int.toNat_natCast,wN he]
  refine⟨fun o=>?_,fun o c=>?_⟩
  ·rw[key]
   have:=hu j0 d hj0 o
   subst this
   intro q
   obtain⟨a1,a2⟩:=List.getElem?_eq_some_iff.1 hp
   obtain⟨b1,b2⟩:=List.getElem?_eq_some_iff.1 hv
   exact absurd (by rw[a2,b2]) (List.pairwise_iff_getElem.1 (UR x.aF) p i a1 b1 q)
  ·obtain⟨g1,g2⟩:=ha d (List.mem_of_getElem? hj0) o hl0 c
   rw[g1,key]
   constructor
   ·intro q
    rcases Nat.lt_trichotomy p i with r|r|r
    ·exact r
    ·subst r
     rw[hp] at hv;cases hv
     rw[hjs] at hj0;cases hj0
     omega
    ·have:=Uj r hv hp
     rw[kl j0 d hj0,kl js es hjs] at this;omega
   ·intro q
    have:=Uj q hp hv
    rw[kl j0 d hj0,kl js es hjs] at this;omega
theorem NB.all (h:NB x):mD x.aF (jD x.aF).length↔x.shut=true:=by
 constructor
 ·rintro⟨j,u,e,hj,hu,he,ho⟩
  cases hs:x.shut with
  |true=>rfl
  |false=>exact absurd ho (h.n hs e (List.mem_of_getElem? he)).1
 ·intro hs
  obtain⟨js,es,hjs,o4,hls,-,-⟩:=h.s hs
  have hin:((js:Nat):Int)∈jD x.aF:=BK.2 ⟨js,es,rfl,hjs,hls⟩
  obtain⟨p,hp⟩:=List.mem_iff_getElem?.1 hin
  exact⟨p,js,es,(List.getElem?_eq_some_iff.1 hp).1,hp,by rw[Int.toNat_natCast];exact hjs,o4⟩
end
end Go.Proofs.YtcgjihfngdhjjaaGreat
end
section
set_option linter.unusedSimpArgs false
set_option linter.unusedVariables false
set_option maxHeartbeats 4000000
set_option maxRecDepth 20000
namespace Go.Proofs.YtcgjihfngdhjjaaGreat
open Go Go.Ab
section
def N9 (x0:AV):Prog:=Cl Bu [x0] fun a=>.ite a (.fin [.val (.bool true)]) (Cl AP [x0] fun a=>.op (.alloc jh) fun b=>.op (.st 32 b a) fun _=>Lg 30 b fun a=>Cl KN [a] fun a=>.loop [.bool false,.int .i64 0,.tup []] (fun c=>Ln 0 a fun d=>Bn .lss (g c 1) d fun d=>.ite d (Lg 30 b fun b=>Ix 1 a (g c 1) fun a=>.op (.ld1 a) fun a=>Ix 20 b a fun a=>Ld 20 a fun a=>.op (.alloc jR) fun b=>.op (.st 20 b a) fun _=>Lg 0 b fun a=>Bn .eql a (.int .i64 4) fun a=>.scope (.ite a (.ite (g c 0) (.fin [.val (.bool false)]) (.leaf 0 [.bool true])) (.leaf 0 [g c 0])) (fun a=>Lg 0 b fun d=>Bn .eql d (.int .i64 1) fun d=>Gf d true 10 b fun e=>.gop d true (.bin 0 .neq e (.int .i64 5)) fun e=>Pk d e (.bool false) fun d=>Gf d true 10 b fun e=>.gop d true (.bin 0 .eql e (.int .i64 4)) fun e=>.gop d true (.mv (g a 0)) fun f=>.gop d true (.bin 2 .neq e f) fun e=>Pk d e (.bool false) fun d=>.ite d (.fin [.val (.bool false)]) (Bn .add (g c 1) (.int .i64 1) fun c=>.leaf 0 [g a 0,c,b])) fun a b=>aC a 1 (.leaf 1 b) .bad) (.leaf 2 [g c 0,g c 1,g c 2])) fun a c=>aC a 1 (.leaf 1 c) (aC a 2 (Ld 32 b fun a=>Cl l7 [a] fun a=>.gop a true (.mv (g c 0)) fun d=>Gf a true 13 b fun e=>.gop a true (.bin 2 .eql d e) fun d=>Pk a d (.bool false) fun a=>.gop a true (.mv (g c 0)) fun c=>.gop a true (.una .not c) fun c=>.gop a true (.mv c) fun c=>.gop c false (.fad 22 b) fun b=>.gop c false (.ldn 4 b) fun b=>.gop c false (.call rQ [b]) fun b=>.gop c false (.len 0 b) fun b=>.gop c false (.bin 0 .eql b (.int .i64 0)) fun b=>.gop a true (.pick c (.bool true) b) fun b=>Pk a b (.bool false) fun a=>.fin [.val a]) .bad))
theorem ZV (x0:AV):CC Tryz.prog Oa [x0] (N9 x0):=cc Tryz.func4 [3,4,5,6,7] (fun r=>if r=9 then[(0,[]),(1,[]),(2,[]),(3,[]),(4,[]),(5,[]),(6,[]),(7,[]),(8,[]),(9,[])] else[])
end
theorem Z5 {h:AH} {v0:AV} {x0:List UInt8} {F0:List Nat} (r0:ah h v0 x0 F0) (k0:∀ x∈x0,Cel.ok x):aP Tryz.prog Oa [v0] h (.bool true):=by
 refine reader (ZV _) (by simp only[old]) ?_
 unfold N9
 refine dS (KY r0) ?_ ?_<;>intro hn<;>first|replace hn:=oU hn|replace hn:=wR hn
 ·(repeat' first|refine vs ?_|fail)
  exact pb rfl
 have hs:x0.length≤1048576:=by omega
 clear hn k0
 refine vs ?_
 refine aL (JJ hs aB) ?_
 rintro _ h1 ⟨x,cs,F,rfl,rp,o1,e1,hR⟩
 have n1:=e1.1
 obtain⟨ok,hz⟩:=hR.fit (by decide) (by decide)
 have hI:=hR.wi
 have h5:=hI.tl
 have l1:cs.length=32:=Cel.len rp
 refine iH ?_
 refine zU (by assumption) (by rfl) ?_
 have bk:Bk (h1.push ⟨cs,0,0⟩) h1.n cs 0:=aO
 have e2:Ext h1 (h1.push ⟨cs,0,0⟩):=aI
 generalize (h1.push ⟨cs,0,0⟩:AH)=h2 at bk e2 ⊢
 have n2:=e2.1
 have rx:Cel.rep h2 x cs F:=jJ rp e2
 have ry:=rx
 clear rp r0 o1
 obtain⟨v0,v1,v2,v3,v4,v5,v6,v7,v8,v9,v10,F0,F1,F2,F3,F4,F5,F6,F7,F8,F9,F10,rfl,rfl,r0,r1,r2,r3,r4,r5,r6,r7,r8,r9,r10⟩:=ry
 have bk:Bk h2 h1.n [AV.int .i64 x.c.dK,AV.int .i64 x.c.wait,AV.int .i64 x.c.budget,AV.int .i64 x.c.cache,AV.int .i64 x.c.queue,AV.int .i64 x.c.rate,AV.int .i64 x.c.aZ,AV.int .i64 x.c.rule.kind,AV.int .i64 x.c.rule.n,AV.str x.c.rule.key,AV.str x.c.rule.text,v0,AV.int .i64 x.time,AV.bool x.shut,v1,AV.int .i64 x.bg,AV.int .i64 x.b.rate,AV.int .i64 x.b.aZ,AV.int .i64 x.b.tokens,AV.int .i64 x.b.at_,v2,AV.int .i64 x.used,AV.int .i64 x.w.now,v3,v4,v5,v6,v7,v8,v9,v10,AV.int .i64 x.next] 0:=bk
 have s9:ah h2 v9 x.tasks F9:=r9
 have q7:=r7.small
 have q9:=r9.small
 have q10:=r10.small
 have hs:Sz.sz x≤67108864:=by omega
 have hs:Sz.sz x.c+(x.st.length+szs x.st)+(x.cache.length+szs x.cache)+Sz.sz x.w+(x.due.length+szs x.due)+(x.queue.length+szs x.queue)+(x.out.length+szs x.out)+(x.tasks.length+szs x.tasks)+(x.aF.length+szs x.aF)≤67108864:=hs
 (repeat' first|refine vs ?_|fail)
 refine aL (aeA (by omega) r10) ?_
 rintro uo h3 ⟨e3,Go_,ro,oo⟩
 have n3:=e3.1
 have qo:=ro.small
 refine aX (jD x.aF).length (fun i vs h'=>∃ c,vs=[.bool (bp (mD x.aF i)),.int .i64 (i:Int),c]∧i≤(jD x.aF).length∧Ext h3 h') ⟨_,by rw[gM ajf];rfl,Nat.zero_le _,aI⟩ ?_
 rintro i vs h' _ ⟨c,rfl,hi,e4⟩
 have n4:=e4.1
 simp only[g0,g1]
 have ro4:ah h' uo (jD x.aF) Go_:=aB
 have rd4:ah h' v10 x.aF F10:=aB
 refine eG ro4 ?_
 refine br (fun q=>?_) (fun q=>?_)
 ·obtain⟨v,hv,-,-⟩:=aU (show i < (jD x.aF).length by omega)
  obtain⟨j,d,rfl,hd,hl⟩:=BK.1 (List.mem_of_getElem? hv)
  have a1:=hR.nb.at hv (d:=d) (by simpa using hd)
  have a2:=aje hv (d:=d) (by simpa using hd)
  by_cases hS:mD x.aF i
  ·rw[fK hS]
   have b1:d.op≠4:=fun e=>a1.1 e hS
   have b2:d.op=1→d.code≠5→d.code=4:=fun p q=>(a1.2 p q).2 hS
   have b3:bp (mD x.aF (i+1))=true:=fK (a2.2 (.inl hS))
   clear a1 a2
   (repeat' first|refine vs ?_|(refine br ?_ ?_<;>first|exact bo|intro _)|((with_reducible refine bB ?_);((refine ix ?_);first|rintro _ _ _ _ _ ⟨rfl,rfl⟩ _|rintro _ _ _ _ _ ⟨_,rfl,_⟩ _))|refine gS ?_|fail)
   all_goals exact⟨by omega,_,by(first|(rw[b3];rfl)|rw[b3]),by omega,aI⟩
  ·rw[gM hS]
   have b2:d.op=1→d.code≠5→d.code≠4:=fun p q e=>hS ((a1.2 p q).1 e)
   by_cases h4:d.op=4
   ·have b3:bp (mD x.aF (i+1))=true:=fK (a2.2 (.inr h4))
    clear a1 a2
    (repeat' first|refine vs ?_|(refine br ?_ ?_<;>first|exact bo|intro _)|((with_reducible refine bB ?_);((refine ix ?_);first|rintro _ _ _ _ _ ⟨rfl,rfl⟩ _|rintro _ _ _ _ _ ⟨_,rfl,_⟩ _))|fail)
    all_goals exact⟨by omega,_,by((rw[b3];rfl)),by omega,aI⟩
   ·have b3:bp (mD x.aF (i+1))=false:=gM fun c=>(a2.1 c).elim hS h4
    clear a1 a2
    (repeat' first|refine vs ?_|(refine br ?_ ?_<;>first|exact bo|intro _)|((with_reducible refine bB ?_);((refine ix ?_);first|rintro _ _ _ _ _ ⟨rfl,rfl⟩ _|rintro _ _ _ _ _ ⟨_,rfl,_⟩ _))|refine gS ?_|fail)
    all_goals exact⟨by omega,_,by(first|(rw[b3];rfl)|rw[b3]),by omega,aI⟩
 ·have e:i=(jD x.aF).length:=by omega
  subst e
  have rx4:Cel.rep h' x _ _:=jJ rx (show Ext h2 h' from aI)
  have cO:aP Tryz.prog l7 [.agg _] h' (.bool true):=fK (KP.2 hI)▸Ka ok (by omega) rx4
  have cO:aP Tryz.prog l7 [.agg [AV.int .i64 x.c.dK,AV.int .i64 x.c.wait,AV.int .i64 x.c.budget,AV.int .i64 x.c.cache,AV.int .i64 x.c.queue,AV.int .i64 x.c.rate,AV.int .i64 x.c.aZ,AV.int .i64 x.c.rule.kind,AV.int .i64 x.c.rule.n,AV.str x.c.rule.key,AV.str x.c.rule.text,v0,AV.int .i64 x.time,AV.bool x.shut,v1,AV.int .i64 x.bg,AV.int .i64 x.b.rate,AV.int .i64 x.b.aZ,AV.int .i64 x.b.tokens,AV.int .i64 x.b.at_,v2,AV.int .i64 x.used,AV.int .i64 x.w.now,v3,v4,v5,v6,v7,v8,v9,v10,AV.int .i64 x.next]] h' (.bool true):=cO
  by_cases hsh:x.shut=true
  ·rw[fK (hR.nb.all.2 hsh)]
   have ht:=hI.shut hsh
   rw[hsh] at bk cO
   (repeat' first|refine vs ?_|((with_reducible refine aG l7 ?_);refine aQ cO ?_)|(refine br ?_ ?_<;>intro _<;>try(exfalso;contradiction))|refine gS ?_|fail)
   refine aL (yK (w:=x.w) (by omega) aB aB aB) ?_
   rw[ht]
   rintro ut h5 ⟨e5,Gt,rt,ot⟩
   have n5:=e5.1
   refine vs ?_
   simp only[List.length_nil]
   (repeat' first|refine vs ?_|(refine br ?_ ?_<;>first|exact bo|intro _)|fail)
   all_goals exact pb rfl
  ·have hsf:x.shut=false:=by simpa using hsh
   rw[gM fun c=>hsh (hR.nb.all.1 c)]
   rw[hsf] at bk cO
   (repeat' first|refine vs ?_|((with_reducible refine aG l7 ?_);refine aQ cO ?_)|(refine br ?_ ?_<;>intro _<;>try(exfalso;contradiction))|refine gS ?_|fail)
   all_goals exact pb rfl
end Go.Proofs.YtcgjihfngdhjjaaGreat
end
