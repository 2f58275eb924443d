import Derived.Test.YtcgjihfngdhjjaaGreatDW82
import Derived.Test.YtcgjihfngdhjjaaGreatDW115
section
set_option linter.unusedSimpArgs false
set_option linter.unusedVariables false
set_option maxHeartbeats 2000000
namespace Go.Proofs.YtcgjihfngdhjjaaGreat
open Go Go.Ab
attribute[local irreducible] dD
theorem XZ {α:Type} [Cel α] {P:Program} {h:AH} {Q:Nat→List AV→AH→Prop} {k:AV→Prog} {n es bytes:Nat} {y:AV} {ys:List α} {Fy:List Nat} (ry:ah h y ys Fy) (o:Own n h Fy.tail) (hn:n≤h.n) (hw:es=Cel.w α) (hs:ys.length * bytes≤70368744177664)
  (hk:∀ v h' F',Ext h h'→ah h' v ys F'→Own n h' F'→(∀ c∈F',c∈Fy.tail∨h.n≤c)→(k v).awp P h' Q):(Prog.op (.app es bytes (.sl h.n 0 0) y) k).awp P (h.push ⟨[],es,0⟩) Q:=by
 have hsm:=ry.small
 obtain⟨re,oe⟩:=gu (h:=h) (α:=α) hw
 have hlt:=ry.lt
 have Dt:∀ b∈Fy.tail,b < h.n:=fun b hb=>hlt b (List.mem_of_mem_tail hb)
 refine xg (n:=n) (xs:=[]) re (dU ry) ?_ (by simp;omega) hw (by simpa using hs) (by simpa using hsm) ?_
 ·exact oD hn rfl Dt o
 ·intro v h' F' kp r' o' hF
  refine hk v h' F' ⟨Nat.le_trans (by simp) kp.1,fun b hb=>?_⟩ r' o' fun c hc=>?_
  ·rw[kp.2 b (by simp;omega) (by simp;omega)]
   have:b≠h.n:=by omega
   simp[this]
  ·rcases hF c hc with q|q|q
   ·exact .inr (by rw[List.mem_singleton.1 q];exact Nat.le_refl _)
   ·exact .inl q
   ·exact .inr (Nat.le_trans (by simp) q)
structure fQ (n:Nat) (h:AH) (c:Nat) (w:bn) (u0 u1 u2:AV) (f0 f1 f2:List Nat):Prop where
 bk:Bk h c [.int .i64 w.now,u0,u1,u2] 0
 r0:ah h u0 w.near f0
 r1:ah h u1 w.far f1
 r2:ah h u2 w.rest f2
 o:Own n h (f0++(f1++f2))
 nc:c ∉ f0++(f1++f2)
section
variable{P:Program} {n c:Nat} {h g h':AH} {w:bn} {u0 u1 u2:AV} {f0 f1 f2 X:List Nat} {Q:Nat→List AV→AH→Prop} {k:AV→Prog}
theorem fQ.lt (W:fQ n h c w u0 u1 u2 f0 f1 f2):∀ d∈f0++(f1++f2),d < h.n:=fun d hd=>by
 rcases List.mem_append.1 hd with q|q
 ·exact W.r0.lt d q
 rcases List.mem_append.1 q with q|q
 ·exact W.r1.lt d q
 ·exact W.r2.lt d q
theorem fQ.kp (W:fQ n h c w u0 u1 u2 f0 f1 f2) (k:Kp h h' X) (hc:c ∉ X) (hX:∀ d∈f0++(f1++f2),d ∉ X):fQ n h' c w u0 u1 u2 f0 f1 f2:=
 ⟨bI k W.bk hc,aK k W.r0 fun d hd=>hX d (List.mem_append_left _ hd),aK k W.r1 fun d hd=>hX d (List.mem_append_right _ (List.mem_append_left _ hd)),aK k W.r2 fun d hd=>hX d (List.mem_append_right _ (List.mem_append_right _ hd)),(bX k ⟨W.o,W.lt⟩ hX).1,W.nc⟩
theorem fQ.ext (W:fQ n h c w u0 u1 u2 f0 f1 f2) (e:Ext h h'):fQ n h' c w u0 u1 u2 f0 f1 f2:=W.kp (Kp.gK e:Kp h h' []) List.not_mem_nil fun _ _=>List.not_mem_nil
theorem fQ.sep (W:fQ n h c w u0 u1 u2 f0 f1 f2):iE n h c [f0,f1,f2]:=Nk W.o W.lt W.nc
theorem fQ.Dv (W:fQ n h c w u0 u1 u2 f0 f1 f2) {i:Nat} {sl:List Ab.Timer} (hi:w.far[i]? =some sl):∃ b0 off e0 Fi,u1= .sl b0 off w.far.length∧At h b0 (off+i * 1) [e0]∧ah h e0 sl Fi∧b0∈f1∧∀ d∈Fi,d∈f1:=by
 obtain⟨b0,off,E,Fi,R,ev,⟨e0,rfl,re⟩,oF,el,hd,mR,mF⟩:=W.r1.elt (fB (dI W.o)) hi
 exact⟨b0,off,e0,Fi,ev,el.at_,re,mR b0 el.mem,mF⟩
theorem fQ.set0 {b0 off len i:Nat} {sl:List Ab.Timer} {v:AV} {l:List Ab.Timer} {Z:List Nat} (W:fQ n g c w (.sl b0 off len) u1 u2 f0 f1 f2) (hi:w.near[i]? =some sl) (rv:ah g v l Z) (oZ:Own n g Z) (hZ:∀ d∈Z,d ∉ c::(f0++(f1++f2))) (hk:∀ g2 F',fQ n g2 c {w with near:=w.near.set i l} (.sl b0 off len) u1 u2 F' f1 f2→Kp g g2 [b0]→b0∈f0→g2.n=g.n→(∀ d∈F',d∈f0∨d∈Z)→(k (.tup [])).awp P g2 Q):(Prog.op (.st 1 (.ptr b0 (off+i * 1)) v) k).awp P g Q:=by
 obtain⟨b1,o1,E,Fi,R,ev,⟨e0,rfl,re⟩,oF,el,hd,mR,mF⟩:=W.r0.elt (fB W.o) hi
 injection ev with e1 e2 e3
 subst e1 e2 e3
 have sp:=W.sep
 have hcb:b0≠c:=fun q=>(sp.own 0 _ rfl).2 (q▸mR b0 el.mem)
 refine Elt.st0 (o:=off+i * 1) el rv.cell rfl bV ?_
 intro g2 el2 k2 n2
 have nbZ:b0 ∉ Z:=fun q=>hZ b0 q (List.mem_cons_of_mem _ (List.mem_append_left _ (mR b0 el.mem)))
 obtain⟨F',q',o',m'⟩:=el2.done (x':=l) (Fi':=Z) ⟨_,rfl,aK k2 rv (gJ nbZ)⟩ (bX k2 ⟨oZ,rv.lt⟩ (gJ nbZ)).1 fun x hx hX=>hZ x hx (List.mem_cons_of_mem _ (List.mem_append_left _ (mR x hX)))
 have mm:∀ x∈F',x∈f0∨x∈Z:=fun x hx=>(m' x hx).imp (mR x) id
 have K:Kp g g2 (c::f0):=k2.mono fun x hx=>by rw[List.mem_singleton.1 hx];exact List.mem_cons_of_mem _ (mR b0 el.mem)
 have s2:=sp.j3 (i:=0) (h':=g2) (f:=F') rfl K ⟨o',q'.lt⟩ (fun q=>by
  rcases mm c q with a|a
  ·exact(sp.own 0 _ rfl).2 a
  ·exact hZ c a List.mem_cons_self) fun x hx=>(mm x hx).imp id fun a hm=>hZ x a (List.mem_cons_of_mem _ (by simpa using hm))
 obtain⟨oo,cc⟩:=xq s2
 refine hk g2 F' ⟨bI k2 W.bk (iL fun q=>hcb q.symm),q',?_,?_,oo,cc⟩ k2 (mR b0 el.mem) n2 mm
 ·exact aK K W.r1 fun x hx hX=>(List.mem_cons.1 hX).elim (fun q=>(sp.own 1 _ rfl).2 (q▸hx)) fun q=>sp.dis 1 0 _ _ (by decide) rfl rfl x hx q
 ·exact aK K W.r2 fun x hx hX=>(List.mem_cons.1 hX).elim (fun q=>(sp.own 2 _ rfl).2 (q▸hx)) fun q=>sp.dis 2 0 _ _ (by decide) rfl rfl x hx q
theorem fQ.set1 {b0 off len i:Nat} {sl:List Ab.Timer} {v:AV} {l:List Ab.Timer} {Z:List Nat} (W:fQ n g c w u0 (.sl b0 off len) u2 f0 f1 f2) (hi:w.far[i]? =some sl) (rv:ah g v l Z) (oZ:Own n g Z) (hZ:∀ d∈Z,d ∉ c::(f0++(f1++f2))) (hk:∀ g2 F',fQ n g2 c {w with far:=w.far.set i l} u0 (.sl b0 off len) u2 f0 F' f2→Kp g g2 [b0]→b0∈f1→g2.n=g.n→(∀ d∈F',d∈f1∨d∈Z)→(k (.tup [])).awp P g2 Q):(Prog.op (.st 1 (.ptr b0 (off+i * 1)) v) k).awp P g Q:=by
 obtain⟨b1,o1,E,Fi,R,ev,⟨e0,rfl,re⟩,oF,el,hd,mR,mF⟩:=W.r1.elt (fB (dI W.o)) hi
 injection ev with e1 e2 e3
 subst e1 e2 e3
 have sp:=W.sep
 have mem1:∀ {x},x∈f1→x∈c::(f0++(f1++f2)):=fun q=>List.mem_cons_of_mem _ (List.mem_append_right _ (List.mem_append_left _ q))
 have hcb:b0≠c:=fun q=>(sp.own 1 _ rfl).2 (q▸mR b0 el.mem)
 refine Elt.st0 (o:=off+i * 1) el rv.cell rfl bV ?_
 intro g2 el2 k2 n2
 have nbZ:b0 ∉ Z:=fun q=>hZ b0 q (mem1 (mR b0 el.mem))
 obtain⟨F',q',o',m'⟩:=el2.done (x':=l) (Fi':=Z) ⟨_,rfl,aK k2 rv (gJ nbZ)⟩ (bX k2 ⟨oZ,rv.lt⟩ (gJ nbZ)).1 fun x hx hX=>hZ x hx (mem1 (mR x hX))
 have mm:∀ x∈F',x∈f1∨x∈Z:=fun x hx=>(m' x hx).imp (mR x) id
 have K:Kp g g2 (c::f1):=k2.mono fun x hx=>by rw[List.mem_singleton.1 hx];exact List.mem_cons_of_mem _ (mR b0 el.mem)
 have s2:=sp.j3 (i:=1) (h':=g2) (f:=F') rfl K ⟨o',q'.lt⟩ (fun q=>by
  rcases mm c q with a|a
  ·exact(sp.own 1 _ rfl).2 a
  ·exact hZ c a List.mem_cons_self) fun x hx=>(mm x hx).imp id fun a hm=>hZ x a (List.mem_cons_of_mem _ (by simpa using hm))
 obtain⟨oo,cc⟩:=xq s2
 refine hk g2 F' ⟨bI k2 W.bk (iL fun q=>hcb q.symm),?_,q',?_,oo,cc⟩ k2 (mR b0 el.mem) n2 mm
 ·exact aK K W.r0 fun x hx hX=>(List.mem_cons.1 hX).elim (fun q=>(sp.own 0 _ rfl).2 (q▸hx)) fun q=>sp.dis 0 1 _ _ (by decide) rfl rfl x hx q
 ·exact aK K W.r2 fun x hx hX=>(List.mem_cons.1 hX).elim (fun q=>(sp.own 2 _ rfl).2 (q▸hx)) fun q=>sp.dis 2 1 _ _ (by decide) rfl rfl x hx q
theorem fQ.akF {v:AV} {l:List Ab.Timer} {Z:List Nat} {t:Int} (W:fQ n g c w u0 u1 u2 f0 f1 f2) (rv:ah g v l Z) (oZ:Own n g Z) (hZ:∀ d∈Z,d ∉ c::(f0++(f1++f2))):fQ n (g.upd c ⟨[.int .i64 ({w with now:=t,rest:=l}:bn).now,u0,u1,v],0,0⟩) c {w with now:=t,rest:=l} u0 u1 v f0 f1 Z:=by
 have sp:=W.sep
 have hb:=W.bk.1
 have ncZ:c ∉ Z:=fun q=>hZ c q List.mem_cons_self
 have K:Kp g (g.upd c ⟨[.int .i64 ({w with now:=t,rest:=l}:bn).now,u0,u1,v],0,0⟩) (c::f2):=gU.mono fun x hx=>by rw[List.mem_singleton.1 hx];exact List.mem_cons_self
 have s2:=sp.j3 (i:=2) (f:=Z) rfl K (dM ⟨oZ,rv.lt⟩ ncZ) ncZ fun x hx=>.inr fun hm=>hZ x hx (List.mem_cons_of_mem _ (by simpa using hm))
 obtain⟨oo,cc⟩:=xq s2
 exact⟨gG hb,dH W.r0 (sp.own 0 _ rfl).2,dH W.r1 (sp.own 1 _ rfl).2,dH rv ncZ,oo,cc⟩
theorem fQ.out (W:fQ n g c w u0 u1 u2 f0 f1 f2) {z:Nat} {k:Blk} (hz:z < n):ah (g.upd z k) u0 w.near f0∧ah (g.upd z k) u1 w.far f1∧ah (g.upd z k) u2 w.rest f2∧Own n (g.upd z k) (f0++(f1++f2)):=by
 have hn:∀ {d},d∈f0++(f1++f2)→d≠z:=fun hd=>by have:=(W.o.2 _ hd).1;omega
 exact⟨dH W.r0 fun q=>hn (List.mem_append_left _ q) rfl,dH W.r1 fun q=>hn (List.mem_append_right _ (List.mem_append_left _ q)) rfl,dH W.r2 fun q=>hn (List.mem_append_right _ (List.mem_append_right _ q)) rfl,(dM ⟨W.o,W.lt⟩ fun q=>hn q rfl).1⟩
end
end Go.Proofs.YtcgjihfngdhjjaaGreat
end
section
set_option linter.unusedSimpArgs false
set_option linter.unusedVariables false
set_option maxHeartbeats 2000000
set_option maxRecDepth 20000
namespace Go.Proofs.YtcgjihfngdhjjaaGreat
open Go Go.Ab
attribute[local irreducible] dD
section
def TD (x0 x1:AV):Prog:=.op (.box x0) fun a=>.op (.box x1) fun b=>.op (.alloc [.int .i64 0,.aA,.aA,.aA]) fun c=>Ld 4 a fun d=>Cl uH [d] fun d=>.op (.alloc [.int .i64 0,.aA,.aA,.aA]) fun e=>.op (.st 4 e d) fun _=>Ld 4 a fun d=>Cl kV [d] fun d=>.op (.una .not d) fun d=>Gf d false 2 b fun f=>Gf d false 0 a fun i=>.gop d false (.bin 0 .leq f i) fun f=>Pk d (.bool true) f fun d=>Gf d false 2 b fun f=>.gop d false (.bin 0 .gtr f (.int .i64 2147483647)) fun f=>Pk d (.bool true) f fun d=>.ite d (Ld 4 e fun a=>.op (.st 4 c a) fun _=>.fin [.cn 4 c,.val (.bool false)]) (Ld 3 b fun b=>Cl FK [e,b] fun _=>Ld 4 e fun b=>Cl kV [b] fun b=>.op (.una .not b) fun b=>.ite b (Ld 4 a fun a=>Cl uH [a] fun a=>.op (.st 4 c a) fun _=>.fin [.cn 4 c,.val (.bool false)]) (Ld 4 e fun a=>.op (.st 4 c a) fun _=>.fin [.cn 4 c,.val (.bool true)]))
theorem afP (x0 x1:AV):CC Tryz.prog K5 [x0,x1] (TD x0 x1):=cc Tryz.func248
end
theorem aiq (w:bn) (t:Ab.Timer):Sz.sz (dV w t)≤Sz.sz w+1:=by
 have hsz:∀ w:bn,Sz.sz w=(w.near.length+szs w.near)+(w.far.length+szs w.far)+(w.rest.length+szs w.rest):=fun _=>rfl
 have up:∀ (l:List (List Ab.Timer)) (i:Nat),(upd l i (· ++[t])).length+szs (upd l i (· ++[t]))≤l.length+szs l+1:=by
  intro l i
  rw[mh]
  cases hi:l[i]? with
  |none=>unfold upd;rw[hi];show l.length+szs l≤l.length+szs l+1;omega
  |some a=>
   rw[gV hi]
   have h1:∀ (l:List (List Ab.Timer)) (i:Nat) (a:List Ab.Timer),l[i]? =some a→szs (l.set i (a++[t]))≤szs l+1:=by
    intro l
    induction l with
    |nil=>intro i a h;cases h
    |cons b l ih=>
     intro i a h
     cases i with
     |zero=>
      cases h
      have e:Sz.sz (b++[t])=(b++[t]).length+szs (b++[t]):=rfl
      have e2:Sz.sz b=b.length+szs b:=rfl
      have e3:szs ([t]:List Ab.Timer)=0:=rfl
      show Sz.sz (b++[t])+szs l≤Sz.sz b+szs l+1
      rw[e,e2,zB,e3,List.length_append,List.length_singleton];omega
     |succ i=>have:=ih i a h;show Sz.sz b+szs (l.set i (a++[t]))≤Sz.sz b+szs l+1;omega
   have:=h1 l i a hi
   omega
 unfold dV
 split
 ·have:=up w.near (t.at_ % 8).toNat;rw[hsz,hsz];simp only;omega
 ·split
  ·have:=up w.far (t.at_ / 8 % 8).toNat;rw[hsz,hsz];simp only;omega
  ·have e3:szs ([t]:List Ab.Timer)=0:=rfl
   rw[hsz,hsz];simp only[zB,e3,List.length_append,List.length_singleton];omega
section
variable{h:AH} {w:bn} {u0 u1 u2:AV} {f0 f1 f2:List Nat} {t:Ab.Timer}
theorem afv (hs:Sz.sz w≤33554432) (r0:ah h u0 w.near f0) (r1:ah h u1 w.far f1) (r2:ah h u2 w.rest f2):bq Tryz.prog K5 [.agg (w.cs u0 u1 u2),.agg t.cs] h (Am bn h (gX w t) (Ap w t)):=by
 have hs1:Sz.sz w≤67108864:=by omega
 have hs2:Sz.sz (dV w t)≤67108864:=by have:=aiq w t;omega
 refine afP _ _ ?_
 unfold TD
 (repeat' first|refine vsx ?_|fail)
 refine aL (yJ w hs1 _ _ _ ⟨_,_,_,_,_,_,rfl,rfl,aB,aB,aB⟩) ?_
 rintro _ h1 ⟨e1,_,_,rfl,⟨a0,a1,a2,g0,g1,g2,rfl,rfl,q0,q1,q2⟩,oc⟩
 have n1:=e1.1;(try simp only[aJ,aN] at n1)
 have lt0:=q0.lt;have lt1:=q1.lt;have lt2:=q2.lt
 have o0:=fB oc;have o1:=fB (dI oc);have o2:=dI (dI oc)
 have ocL:bU (h.n+1+1+1) h1 (g0++(g1++g2)):=⟨oc,fun d hd=>by
  rcases List.mem_append.1 hd with q|q
  ·exact lt0 d q
  rcases List.mem_append.1 q with q|q
  ·exact lt1 d q
  ·exact lt2 d q⟩
 have nz:h.n+1+1 ∉ g0++(g1++g2):=fun hm=>by have:=(oc.2 _ hm).1;simp at this;omega
 by_cases hp:kK w∧w.now < t.at_∧t.at_≤2147483647
 ·have hw:=hp.1
  have iD:=hw.1
  (repeat' first|refine vsx ?_|(refine br ?_ ?_<;>first|exact bo|intro _)|((with_reducible refine aG kV ?_);(refine bC (uD hs1 aB aB aB) ?_ ?_<;>intro hn))|fail)
  all_goals try(exfalso;exact absurd hp.1 (by assumption))
  refine aL (R6 (n:=h.n+1+1+1) (c:=h1.n) (w:=w) (t:=t) (gF:Bk _ h1.n [.int .i64 w.now,a0,a1,a2] 0) aB aB aB (gy ocL).1 (fun hm=>by have:=ocL.2 _ hm;omega) (by simp;omega) hw.1 ⟨hp.2.1,hp.2.2⟩ ⟨by have:=hw.2.1;omega,by have:=hw.2.2.1;omega⟩ hs1) ?_
  rintro _ h2 ⟨rfl,a3,a4,a5,g3,g4,g5,b2,q3,q4,q5,oo,c2,k2,-⟩
  have b2:Bk h2 h1.n [.int .i64 (dV w t).now,a3,a4,a5] 0:=b2
  have e3:Ext (((h.push ⟨w.cs u0 u1 u2,0,0⟩).push ⟨t.cs,0,0⟩).push ⟨[AV.int IntKind.i64 0,AV.aA,AV.aA,AV.aA],0,0⟩) h2:=Kp.ext (aI:Ext _ (h1.push ⟨[.int .i64 w.now,a0,a1,a2],0,0⟩)) k2 fun x hx=>by
   rcases List.mem_cons.1 hx with q|q
   ·subst q;simpa using n1
   ·simpa using(oc.2 x q).1
  have n2:=e3.1;(try simp only[aJ,aN] at n2)
  have ll3:=q3.lt;have ll4:=q4.lt;have ll5:=q5.lt
  have p0:=fB oo;have p1:=fB (dI oo);have p2:=dI (dI oo)
  have ooL:bU (h.n+1+1+1) h2 (g3++(g4++g5)):=⟨oo,fun d hd=>by
   rcases List.mem_append.1 hd with q|q
   ·exact ll3 d q
   rcases List.mem_append.1 q with q|q
   ·exact ll4 d q
   ·exact ll5 d q⟩
  have bx3:Bk h2 ((h.push ⟨w.cs u0 u1 u2,0,0⟩).push ⟨t.cs,0,0⟩).n [AV.int IntKind.i64 0,AV.aA,AV.aA,AV.aA] 0:=fq e3 gF
  have nz2:h.n+1+1 ∉ g3++(g4++g5):=fun hm=>by have:=(oo.2 _ hm).1;omega
  by_cases hp2:kK (dV w t)
  ·have eB:Ap w t=true:=fK ⟨hp,hp2⟩
   have eW:gX w t=dV w t:=by unfold gX;rw[if_pos eB]
   rw[eB,eW]
   (repeat' first|refine vsw ?_|((with_reducible refine aG kV ?_);(refine bC (uD (w:=dV w t) hs2 aB aB aB) ?_ ?_<;>intro hn))|fail)
   all_goals try(exfalso;exact absurd hp2 (by assumption))
   exact⟨rfl,_,rfl,aI,_,g3++(g4++g5),rfl,⟨_,_,_,_,_,_,rfl,rfl,aB,aB,aB⟩,(dM ooL nz2).1.mono (by omega) fun _ _=>rfl⟩
  ·have eB:Ap w t=false:=gM fun c=>hp2 c.2
   have eW:gX w t=w:=by unfold gX;rw[if_neg (by rw[eB];decide)]
   rw[eB,eW]
   have bx1:Bk h2 h.n [.int .i64 w.now,u0,u1,u2] 0:=fq e3 (iy (iy gF))
   have r0':ah h2 u0 w.near f0:=r0.ext aI
   have r1':ah h2 u1 w.far f1:=r1.ext aI
   have r2':ah h2 u2 w.rest f2:=r2.ext aI
   (repeat' first|refine vsx ?_|((with_reducible refine aG kV ?_);(refine bC (uD (w:=dV w t) hs2 aB aB aB) ?_ ?_<;>intro hn))|fail)
   all_goals try(exfalso;exact absurd (by assumption) hp2)
   refine aL (yJ w hs1 _ _ _ ⟨_,_,_,_,_,_,rfl,rfl,aB,aB,aB⟩) ?_
   rintro _ h4 ⟨e4,_,_,rfl,⟨a6,a7,a8,g6,g7,g8,rfl,rfl,q6,q7,q8⟩,od⟩
   have n4:=e4.1;(try simp only[aJ,aN] at n4)
   have s0:=fB od;have s1:=fB (dI od);have s2:=dI (dI od)
   have odL:bU h2.n h4 (g6++(g7++g8)):=⟨od,fun d hd=>by
    rcases List.mem_append.1 hd with q|q
    ·exact q6.lt d q
    rcases List.mem_append.1 q with q|q
    ·exact q7.lt d q
    ·exact q8.lt d q⟩
   have nz4:h.n+1+1 ∉ g6++(g7++g8):=fun hm=>by have:=(od.2 _ hm).1;omega
   (repeat' first|refine vsw ?_|fail)
   exact⟨rfl,_,rfl,aI,_,g6++(g7++g8),rfl,⟨_,_,_,_,_,_,rfl,rfl,aB,aB,aB⟩,(dM odL nz4).1.mono (by omega) fun _ _=>rfl⟩
 ·have eB:Ap w t=false:=gM fun c=>hp c.1
  have eW:gX w t=w:=by unfold gX;rw[if_neg (by rw[eB];decide)]
  rw[eB,eW]
  by_cases hw:kK w
  ·have iD:=hw.1
   (repeat' first|refine vsw ?_|(refine br ?_ ?_<;>first|exact bx|intro _)|((with_reducible refine aG kV ?_);(refine bC (uD hs1 aB aB aB) ?_ ?_<;>intro hn))|fail)
   all_goals try(exfalso;first|exact absurd hw (by assumption)|exact hp ⟨hw,by omega,by omega⟩)
   all_goals exact⟨rfl,_,rfl,aI,_,g0++(g1++g2),rfl,⟨_,_,_,_,_,_,rfl,rfl,aB,aB,aB⟩,(gy (dM ocL nz)).1.mono (by omega) fun _ _=>rfl⟩
  ·(repeat' first|refine vsw ?_|(refine br ?_ ?_<;>intro _<;>try(exfalso;contradiction))|((with_reducible refine aG kV ?_);(refine bC (uD hs1 aB aB aB) ?_ ?_<;>intro hn))|fail)
   all_goals try(exfalso;exact absurd (by assumption) hw)
   all_goals exact⟨rfl,_,rfl,aI,_,g0++(g1++g2),rfl,⟨_,_,_,_,_,_,rfl,rfl,aB,aB,aB⟩,(gy (dM ocL nz)).1.mono (by omega) fun _ _=>rfl⟩
end
end Go.Proofs.YtcgjihfngdhjjaaGreat
end
