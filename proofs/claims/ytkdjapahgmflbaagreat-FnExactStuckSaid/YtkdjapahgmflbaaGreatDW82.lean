import Derived.Test.YtkdjapahgmflbaaGreatDW81
import Derived.Test.YtkdjapahgmflbaaGreatDKW2
set_option linter.unusedSimpArgs false
set_option linter.unusedVariables false
set_option maxHeartbeats 2000000
namespace Go.Proofs.YtkdjapahgmflbaaGreat
open Go Go.Ab
attribute[local irreducible] cZ
section
def Ui (x0 x1:AV):Prog:=.op (.box x1) fun a=>Lf 0 x0 fun b=>Lg 2 a fun c=>Cl sF [b,c] fun b=>.op (.ext b 0) fun c=>.op (.ext b 1) fun b=>Bn .eql c (.int .i64 1) fun d=>.scope (.ite d (.op (.bg x0) fun c=>.op (.fad 1 c) fun c=>.op (.ld1 c) fun d=>Lf 1 x0 fun e=>Ix 1 e b fun e=>.op (.ld1 e) fun e=>Ld 3 a fun a=>.op (.aU 3 1 [.int .i64 0,.int .i64 0,.int .i64 0] [(0,3,a)]) fun a=>.op (.app 3 24 e a) fun a=>.chk (.ld1 c) d (Ix 1 d b fun b=>.op (.st 1 b a) fun _=>.leaf 0 [])) (Bn .eql c (.int .i64 2) fun c=>.scope (.ite c (.op (.bg x0) fun c=>.op (.fad 2 c) fun c=>.op (.ld1 c) fun d=>Lf 2 x0 fun e=>Ix 1 e b fun e=>.op (.ld1 e) fun e=>Ld 3 a fun a=>.op (.aU 3 1 [.int .i64 0,.int .i64 0,.int .i64 0] [(0,3,a)]) fun a=>.op (.app 3 24 e a) fun a=>.chk (.ld1 c) d (Ix 1 d b fun b=>.op (.st 1 b a) fun _=>.leaf 0 [])) (Lf 3 x0 fun b=>Ld 3 a fun a=>.op (.aU 3 1 [.int .i64 0,.int .i64 0,.int .i64 0] [(0,3,a)]) fun a=>.op (.app 3 24 b a) fun a=>Sf 3 x0 a fun _=>.leaf 0 [])) (fun _=>.leaf 0 []) fun a b=>aB a 1 (.leaf 1 b) .bad)) (fun _=>.fin []) fun a b=>aB a 1 (.leaf 1 b) .bad
theorem aii (x0 x1:AV):CC Tryz.prog KW [x0,x1] (Ui x0 x1):=cc Tryz.func384 [] (fun r=>if r=1 then[(0,[]),(1,[]),(2,[]),(3,[]),(4,[]),(5,[]),(6,[]),(7,[]),(8,[]),(9,[]),(10,[]),(11,[])] else if r=5 then[(0,[]),(1,[]),(2,[]),(3,[]),(4,[]),(5,[]),(6,[]),(7,[]),(8,[]),(9,[]),(10,[]),(11,[]),(12,[]),(13,[]),(14,[3]),(15,[]),(16,[])] else if r=7 then[(0,[]),(1,[]),(2,[]),(3,[]),(4,[]),(5,[]),(6,[]),(7,[]),(8,[]),(9,[]),(10,[]),(11,[]),(12,[]),(13,[]),(14,[3]),(15,[]),(16,[])] else if r=3 then[(0,[]),(1,[]),(2,[]),(3,[]),(4,[]),(5,[]),(6,[]),(7,[]),(8,[]),(9,[]),(10,[])] else[])
def Vo (x0 x1:AV):Prog:=.op (.box x1) fun a=>Lg 2 a fun b=>Bn .quo b (.int .i64 8) fun b=>Lf 0 x0 fun c=>Bn .quo c (.int .i64 8) fun c=>Bn .sub b c fun b=>Bn .eql b (.int .i64 0) fun c=>.scope (.ite c (.op (.bg x0) fun b=>.op (.fad 1 b) fun b=>.op (.ld1 b) fun c=>.op (.fad 2 a) fun d=>.op (.ld1 d) fun e=>Bn .rem e (.int .i64 8) fun f=>Lf 1 x0 fun i=>Lg 2 a fun j=>Bn .rem j (.int .i64 8) fun j=>Ix 1 i j fun i=>.op (.ld1 i) fun i=>Ld 3 a fun a=>.op (.aU 3 1 [.int .i64 0,.int .i64 0,.int .i64 0] [(0,3,a)]) fun a=>.op (.app 3 24 i a) fun a=>.chk (.ld1 b) c (.chk (.ld1 d) e (Ix 1 c f fun b=>.op (.st 1 b a) fun _=>.leaf 0 []))) (Bn .lss b (.int .i64 8) fun b=>.scope (.ite b (Lg 2 a fun b=>Bn .quo b (.int .i64 8) fun b=>Bn .rem b (.int .i64 8) fun b=>.op (.bg x0) fun c=>.op (.fad 2 c) fun c=>.op (.ld1 c) fun d=>Lf 2 x0 fun e=>Ix 1 e b fun e=>.op (.ld1 e) fun e=>Ld 3 a fun a=>.op (.aU 3 1 [.int .i64 0,.int .i64 0,.int .i64 0] [(0,3,a)]) fun a=>.op (.app 3 24 e a) fun a=>.chk (.ld1 c) d (Ix 1 d b fun b=>.op (.st 1 b a) fun _=>.leaf 0 [])) (Lf 3 x0 fun b=>Ld 3 a fun a=>.op (.aU 3 1 [.int .i64 0,.int .i64 0,.int .i64 0] [(0,3,a)]) fun a=>.op (.app 3 24 b a) fun a=>Sf 3 x0 a fun _=>.leaf 0 [])) (fun _=>.leaf 0 []) fun a b=>aB a 1 (.leaf 1 b) .bad)) (fun _=>.fin []) fun a b=>aB a 1 (.leaf 1 b) .bad
theorem ajB (x0 x1:AV):CC Tryz.prog Lm [x0,x1] (Vo x0 x1):=cc Tryz.func376 [] (fun r=>if r=1 then[(0,[]),(1,[]),(2,[]),(3,[]),(4,[]),(5,[]),(6,[]),(7,[]),(8,[]),(9,[])] else if r=4 then[(0,[]),(1,[]),(2,[]),(3,[]),(4,[]),(5,[]),(6,[]),(7,[]),(8,[]),(9,[]),(10,[]),(11,[]),(12,[]),(13,[]),(14,[]),(15,[]),(16,[]),(17,[]),(18,[3,5]),(19,[]),(20,[])] else if r=7 then[(0,[]),(1,[]),(2,[]),(3,[]),(4,[]),(5,[]),(6,[]),(7,[]),(8,[]),(9,[]),(10,[]),(11,[]),(12,[]),(13,[]),(14,[3]),(15,[]),(16,[])] else if r=2 then[(0,[]),(1,[]),(2,[]),(3,[]),(4,[]),(5,[]),(6,[]),(7,[]),(8,[]),(9,[]),(10,[])] else[])
end
def ZA (n:Nat) (h:AH) (c:Nat) (w':bX) (X:List Nat) (v:AV) (h':AH):Prop:=v= .tup []∧∃ u0 u1 u2 f0 f1 f2,Bk h' c (w'.cs u0 u1 u2) 0∧au h' u0 w'.near f0∧au h' u1 w'.far f1∧au h' u2 w'.rest f2∧Own n h' (f0++(f1++f2))∧c ∉ f0++(f1++f2)∧Kp h h' X∧∀ x∈f0++(f1++f2),x∈X∨h.n≤x
section
variable{n c:Nat} {h h':AH} {f0 f1 f2 f':List Nat}
theorem IC (o:Own n h (f0++(f1++f2))) (lt:∀ c∈f0++(f1++f2),c < h.n) (hc:c ∉ f0++(f1++f2)):iy n h c [f0,f1,f2]:=by
 have e:[f0,f1,f2].flatten=f0++(f1++f2):=by simp
 exact iy.of (by rw[e];exact⟨o,lt⟩) (by rw[e];exact hc)
theorem qH (s:iy n h c [f0,f1,f2]):Own n h (f0++(f1++f2))∧c ∉ f0++(f1++f2):=by
 have e:[f0,f1,f2].flatten=f0++(f1++f2):=by simp
 refine⟨by have:=s.flat.1;rwa [e] at this,fun hm=>?_⟩
 rcases List.mem_append.1 hm with q|q
 ·exact(s.own 0 _ rfl).2 q
 rcases List.mem_append.1 q with q|q
 ·exact(s.own 1 _ rfl).2 q
 ·exact(s.own 2 _ rfl).2 q
end
theorem IK {a:Int} (h:0≤a):0≤a % 8∧a % 8 < 8:=⟨Int.emod_nonneg _ (by decide),Int.emod_lt_of_pos _ (by decide)⟩
section
variable{h:AH} {n c:Nat} {w:bX} {u0 u1 u2:AV} {f0 f1 f2:List Nat} {t:Ab.Timer}
theorem ahX (bk:Bk h c (w.cs u0 u1 u2) 0) (r0:au h u0 w.near f0) (r1:au h u1 w.far f1) (r2:au h u2 w.rest f2) (o:Own n h (f0++(f1++f2))) (hc:c ∉ f0++(f1++f2)) (hn:n≤h.n) (kV:0≤w.now∧w.now≤2147483647) (ht:w.now < t.at_∧t.at_≤2147483647) (hl:w.near.length=8∧w.far.length=8) (hs:Sz.sz w≤67108864):bN Tryz.prog KW [.ptr c 0,.agg t.cs] h (ZA n h c (fH w t) (c::(f0++(f1++f2)))):=by
 have bk:Bk h c [.int .i64 w.now,u0,u1,u2] 0:=bk
 have hb:=bk.1
 have lt0:=r0.lt;have lt1:=r1.lt;have lt2:=r2.lt
 have lt:∀ d∈f0++(f1++f2),d < h.n:=fun d hd=>by
  rcases List.mem_append.1 hd with q|q
  ·exact lt0 d q
  rcases List.mem_append.1 q with q|q
  ·exact lt1 d q
  ·exact lt2 d q
 have sp:=IC o lt hc
 have hsz:Sz.sz w=(w.near.length+szs w.near)+(w.far.length+szs w.far)+(w.rest.length+szs w.rest):=rfl
 have m8:=IK (show 0≤t.at_ by omega)
 have m88:=IK (show 0≤t.at_ / 8 by omega)
 refine aii _ _ ?_
 unfold Ui
 by_cases h1:t.at_ / 8=w.now / 8
 ·have e:fH w t={w with near:=upd w.near (t.at_ % 8).toNat (· ++[t])}:=by unfold fH;rw[if_pos h1]
  obtain⟨sl,hsl⟩:∃ a,w.near[(t.at_ % 8).toNat]? =some a:=⟨w.near[(t.at_ % 8).toNat]'(by omega),List.getElem?_eq_getElem _⟩
  rw[e,iQ hsl]
  have NG:=bC (List.mem_of_getElem? hsl)
  have ND:Sz.sz sl=sl.length+szs sl:=rfl
  obtain⟨b0,off,E,Fi,R,ev,⟨e0,rfl,re⟩,oF,el,hd,mR,mF⟩:=r0.elt (dA o) hsl
  subst ev
  have a0:At h b0 (off+(t.at_ % 8).toNat * 1) [e0]:=el.at_
  have hb0:=el.lt
  have oFi:=oF.1
  have hcb:b0≠c:=fun q=>(sp.own 0 _ rfl).2 (q▸mR b0 el.mem)
  (repeat' first|refine vsw ?_|refine ao4 ?_|(refine br ?_ ?_<;>first|exact bo|intro _)|((with_reducible refine aA sF ?_);(refine aJ (Eb kV.1 kV.2 (by omega) (by omega)) ?_;rw[if_pos h1,if_pos h1]))|fail)
  refine iJ (n:=n) (a:=t) (cs:=t.cs) (G:=[]) (ah:au _ e0 sl Fi) ⟨rfl,rfl⟩ (by rw[List.append_nil];exact bA) (by simp;omega) rfl (by omega) (by omega) ?_
  intro v h2 f' ek k1 q1 o1 m1
  have el1:=(el.ext (aD:Ext h (h.push ⟨t.cs,0,0⟩))).kp k1 fun x hx hX=>hd x hX hx
  have hk1:=k1.1;(try simp only[aH,aN] at hk1)
  have nc1:c ∉ Fi:=fun q=>(sp.own 0 _ rfl).2 (mF c q)
  (repeat' first|refine vsw ?_|refine ao4 ?_|fail)
  refine Elt.st0 (o:=off+(t.at_ % 8).toNat * 1) el1 q1.cell rfl aX ?_
  intro h3 el2 k2 n2
  have nb1:b0 ∉ f':=fun q=>by
   rcases m1 b0 q with a|a|a
   ·exact hd b0 a el.mem
   ·cases a
   ·simp at a;omega
  obtain⟨F',q',o',m'⟩:=el2.done (x':=sl++[t]) (Fi':=f') ⟨_,rfl,aL k2 q1 (jh nb1)⟩ (dD k2 ⟨o1,q1.lt⟩ (jh nb1)).1 fun x hx hX=>by
   rcases m1 x hx with a|a|a
   ·exact hd x a hX
   ·cases a
   ·have:=lt0 x (mR x hX);simp at a;omega
  have K:Kp h h3 (c::f0):=((Kp.iA (aD:Ext h (h.push ⟨t.cs,0,0⟩))).trans (k1.mono fun x hx=>List.mem_cons_of_mem _ (mF x hx))).trans (k2.mono fun x hx=>by rw[List.mem_singleton.1 hx];exact List.mem_cons_of_mem _ (mR b0 el.mem))
  have mm:∀ x∈F',x∈f0∨h.n≤x:=fun x hx=>by
   rcases m' x hx with a|a
   ·exact .inl (mR x a)
   ·rcases m1 x a with a|a|a
    ·exact .inl (mF x a)
    ·cases a
    ·exact .inr (by simp at a;omega)
  have s2:=sp.jG (i:=0) (h':=h3) (f:=F') rfl K ⟨o',q'.lt⟩ (fun q=>by
   rcases mm c q with a|a
   ·exact(sp.own 0 _ rfl).2 a
   ·omega) fun x hx=>(mm x hx).imp id fun a hm=>by have:=lt x (by simpa using hm);omega
  obtain⟨oo,cc⟩:=qH s2
  have b3:Bk h3 c [.int .i64 w.now,(AV.sl b0 off w.near.length),u1,u2] 0:=bF k2 (bF k1 (jC bk) nc1) (Bz fun q=>hcb q.symm)
  (repeat' first|refine vsw ?_|fail)
  refine⟨rfl,_,rfl,rfl,_,u1,u2,F',f1,f2,b3,q',?_,?_,oo,cc,K.mono fun x hx=>?_,fun x hx=>?_⟩
  ·exact aL K r1 fun x hx hX=>(List.mem_cons.1 hX).elim (fun q=>(sp.own 1 _ rfl).2 (q▸hx)) fun q=>sp.dis 1 0 _ _ (by decide) rfl rfl x hx q
  ·exact aL K r2 fun x hx hX=>(List.mem_cons.1 hX).elim (fun q=>(sp.own 2 _ rfl).2 (q▸hx)) fun q=>sp.dis 2 0 _ _ (by decide) rfl rfl x hx q
  ·exact(List.mem_cons.1 hx).elim (fun q=>by rw[q];exact List.mem_cons_self) fun q=>List.mem_cons_of_mem _ (List.mem_append_left _ q)
  ·rcases List.mem_append.1 hx with q|q
   ·exact(mm x q).imp (fun a=>List.mem_cons_of_mem _ (List.mem_append_left _ a)) id
   ·exact .inl (List.mem_cons_of_mem _ (List.mem_append_right _ q))
 ·by_cases h2:t.at_ / 8 - w.now / 8 < 8
  ·have e:fH w t={w with far:=upd w.far (t.at_ / 8 % 8).toNat (· ++[t])}:=by unfold fH;rw[if_neg h1,if_pos h2]
   obtain⟨sl,hsl⟩:∃ a,w.far[(t.at_ / 8 % 8).toNat]? =some a:=⟨w.far[(t.at_ / 8 % 8).toNat]'(by omega),List.getElem?_eq_getElem _⟩
   rw[e,iQ hsl]
   have NG:=bC (List.mem_of_getElem? hsl)
   have ND:Sz.sz sl=sl.length+szs sl:=rfl
   obtain⟨b0,off,E,Fi,R,ev,⟨e0,rfl,re⟩,oF,el,hd,mR,mF⟩:=r1.elt (dA (bD o)) hsl
   subst ev
   have a0:At h b0 (off+(t.at_ / 8 % 8).toNat * 1) [e0]:=el.at_
   have hb0:=el.lt
   have oFi:=oF.1
   have hcb:b0≠c:=fun q=>(sp.own 1 _ rfl).2 (q▸mR b0 el.mem)
   (repeat' first|refine vsw ?_|refine ao4 ?_|(refine br ?_ ?_<;>first|exact bo|intro _)|((with_reducible refine aA sF ?_);(refine aJ (Eb kV.1 kV.2 (by omega) (by omega)) ?_;rw[if_neg h1,if_neg h1,if_pos h2,if_pos h2]))|fail)
   refine iJ (n:=n) (a:=t) (cs:=t.cs) (G:=[]) (ah:au _ e0 sl Fi) ⟨rfl,rfl⟩ (by rw[List.append_nil];exact bA) (by simp;omega) rfl (by omega) (by omega) ?_
   intro v h4 f' ek k1 q1 o1 m1
   have el1:=(el.ext (aD:Ext h (h.push ⟨t.cs,0,0⟩))).kp k1 fun x hx hX=>hd x hX hx
   have hk1:=k1.1;(try simp only[aH,aN] at hk1)
   have nc1:c ∉ Fi:=fun q=>(sp.own 1 _ rfl).2 (mF c q)
   (repeat' first|refine vsw ?_|refine ao4 ?_|fail)
   refine Elt.st0 (o:=off+(t.at_ / 8 % 8).toNat * 1) el1 q1.cell rfl aX ?_
   intro h3 el2 k2 n2
   have nb1:b0 ∉ f':=fun q=>by
    rcases m1 b0 q with a|a|a
    ·exact hd b0 a el.mem
    ·cases a
    ·simp at a;omega
   obtain⟨F',q',o',m'⟩:=el2.done (x':=sl++[t]) (Fi':=f') ⟨_,rfl,aL k2 q1 (jh nb1)⟩ (dD k2 ⟨o1,q1.lt⟩ (jh nb1)).1 fun x hx hX=>by
    rcases m1 x hx with a|a|a
    ·exact hd x a hX
    ·cases a
    ·have:=lt1 x (mR x hX);simp at a;omega
   have K:Kp h h3 (c::f1):=((Kp.iA (aD:Ext h (h.push ⟨t.cs,0,0⟩))).trans (k1.mono fun x hx=>List.mem_cons_of_mem _ (mF x hx))).trans (k2.mono fun x hx=>by rw[List.mem_singleton.1 hx];exact List.mem_cons_of_mem _ (mR b0 el.mem))
   have mm:∀ x∈F',x∈f1∨h.n≤x:=fun x hx=>by
    rcases m' x hx with a|a
    ·exact .inl (mR x a)
    ·rcases m1 x a with a|a|a
     ·exact .inl (mF x a)
     ·cases a
     ·exact .inr (by simp at a;omega)
   have s2:=sp.jG (i:=1) (h':=h3) (f:=F') rfl K ⟨o',q'.lt⟩ (fun q=>by
    rcases mm c q with a|a
    ·exact(sp.own 1 _ rfl).2 a
    ·omega) fun x hx=>(mm x hx).imp id fun a hm=>by have:=lt x (by simpa using hm);omega
   obtain⟨oo,cc⟩:=qH s2
   have b3:Bk h3 c [.int .i64 w.now,u0,(AV.sl b0 off w.far.length),u2] 0:=bF k2 (bF k1 (jC bk) nc1) (Bz fun q=>hcb q.symm)
   (repeat' first|refine vsw ?_|fail)
   refine⟨rfl,_,rfl,rfl,u0,_,u2,f0,F',f2,b3,?_,q',?_,oo,cc,K.mono fun x hx=>?_,fun x hx=>?_⟩
   ·exact aL K r0 fun x hx hX=>(List.mem_cons.1 hX).elim (fun q=>(sp.own 0 _ rfl).2 (q▸hx)) fun q=>sp.dis 0 1 _ _ (by decide) rfl rfl x hx q
   ·exact aL K r2 fun x hx hX=>(List.mem_cons.1 hX).elim (fun q=>(sp.own 2 _ rfl).2 (q▸hx)) fun q=>sp.dis 2 1 _ _ (by decide) rfl rfl x hx q
   ·exact(List.mem_cons.1 hx).elim (fun q=>by rw[q];exact List.mem_cons_self) fun q=>List.mem_cons_of_mem _ (List.mem_append_right _ (List.mem_append_left _ q))
   ·rcases List.mem_append.1 hx with q|q
    ·exact .inl (List.mem_cons_of_mem _ (List.mem_append_left _ q))
    ·rcases List.mem_append.1 q with q|q
     ·exact(mm x q).imp (fun a=>List.mem_cons_of_mem _ (List.mem_append_right _ (List.mem_append_left _ a))) id
     ·exact .inl (List.mem_cons_of_mem _ (List.mem_append_right _ (List.mem_append_right _ q)))
  ·have e:fH w t={w with rest:=w.rest++[t]}:=by unfold fH;rw[if_neg h1,if_neg h2]
   rw[e]
   have o2:Own n h f2:=bD (bD o)
   have nc2:c ∉ f2:=(sp.own 2 _ rfl).2
   (repeat' first|refine vsw ?_|(with_reducible refine aW ?_)|(refine br ?_ ?_<;>first|exact bo|intro _)|((with_reducible refine aA sF ?_);(refine aJ (Eb kV.1 kV.2 (by omega) (by omega)) ?_;rw[if_neg h1,if_neg h1,if_neg h2,if_neg h2]))|fail)
   refine iJ (n:=n) (a:=t) (cs:=t.cs) (G:=[]) (ah:au _ u2 w.rest f2) ⟨rfl,rfl⟩ (by rw[List.append_nil];exact bA) (by simp;omega) rfl (by omega) (by omega) ?_
   intro v h4 f' ek k1 q1 o1 m1
   have hk1:=k1.1;(try simp only[aH,aN] at hk1)
   have b1:Bk h4 c [.int .i64 w.now,u0,u1,u2] 0:=bF k1 (jC bk) nc2
   have hb4:=b1.1
   (repeat' first|refine vsw ?_|(with_reducible refine aW ?_)|fail)
   have mm:∀ x∈f',x∈f2∨h.n≤x:=fun x hx=>by
    rcases m1 x hx with a|a|a
    ·exact .inl a
    ·cases a
    ·exact .inr (by simp at a;omega)
   have ncf:c ∉ f':=fun q=>by
    rcases mm c q with a|a
    ·exact nc2 a
    ·omega
   have K:Kp h (h4.upd c ⟨[.int .i64 w.now,u0,u1,v],0,0⟩) (c::f2):=((Kp.iA (aD:Ext h (h.push ⟨t.cs,0,0⟩))).trans (k1.mono fun x hx=>List.mem_cons_of_mem _ hx)).trans (fO.mono fun x hx=>by rw[List.mem_singleton.1 hx];exact List.mem_cons_self)
   have s2:=sp.jG (i:=2) (f:=f') rfl K (dN ⟨o1,q1.lt⟩ ncf) ncf fun x hx=>(mm x hx).imp id fun a hm=>by have:=lt x (by simpa using hm);omega
   obtain⟨oo,cc⟩:=qH s2
   refine⟨rfl,_,rfl,rfl,u0,u1,_,f0,f1,f',fP hb4,?_,?_,fC q1 ncf,oo,cc,K.mono fun x hx=>?_,fun x hx=>?_⟩
   ·exact aL K r0 fun x hx hX=>(List.mem_cons.1 hX).elim (fun q=>(sp.own 0 _ rfl).2 (q▸hx)) fun q=>sp.dis 0 2 _ _ (by decide) rfl rfl x hx q
   ·exact aL K r1 fun x hx hX=>(List.mem_cons.1 hX).elim (fun q=>(sp.own 1 _ rfl).2 (q▸hx)) fun q=>sp.dis 1 2 _ _ (by decide) rfl rfl x hx q
   ·exact(List.mem_cons.1 hx).elim (fun q=>by rw[q];exact List.mem_cons_self) fun q=>List.mem_cons_of_mem _ (List.mem_append_right _ (List.mem_append_right _ q))
   ·rcases List.mem_append.1 hx with q|q
    ·exact .inl (List.mem_cons_of_mem _ (List.mem_append_left _ q))
    ·rcases List.mem_append.1 q with q|q
     ·exact .inl (List.mem_cons_of_mem _ (List.mem_append_right _ (List.mem_append_left _ q)))
     ·exact(mm x q).imp (fun a=>List.mem_cons_of_mem _ (List.mem_append_right _ (List.mem_append_right _ a))) id
theorem aja (bk:Bk h c (w.cs u0 u1 u2) 0) (r0:au h u0 w.near f0) (r1:au h u1 w.far f1) (r2:au h u2 w.rest f2) (o:Own n h (f0++(f1++f2))) (hc:c ∉ f0++(f1++f2)) (hn:n≤h.n) (kV:0≤w.now∧w.now≤2147483647) (ht:w.now < t.at_∧t.at_≤2147483647) (hl:w.near.length=8∧w.far.length=8) (hs:Sz.sz w≤67108864):bN Tryz.prog Lm [.ptr c 0,.agg t.cs] h (ZA n h c (fH w t) (c::(f0++(f1++f2)))):=by
 have bk:Bk h c [.int .i64 w.now,u0,u1,u2] 0:=bk
 have hb:=bk.1
 have lt0:=r0.lt;have lt1:=r1.lt;have lt2:=r2.lt
 have lt:∀ d∈f0++(f1++f2),d < h.n:=fun d hd=>by
  rcases List.mem_append.1 hd with q|q
  ·exact lt0 d q
  rcases List.mem_append.1 q with q|q
  ·exact lt1 d q
  ·exact lt2 d q
 have sp:=IC o lt hc
 have hsz:Sz.sz w=(w.near.length+szs w.near)+(w.far.length+szs w.far)+(w.rest.length+szs w.rest):=rfl
 have m8:=IK (show 0≤t.at_ by omega)
 have m88:=IK (show 0≤t.at_ / 8 by omega)
 refine ajB _ _ ?_
 unfold Vo
 by_cases h1:t.at_ / 8=w.now / 8
 ·have e:fH w t={w with near:=upd w.near (t.at_ % 8).toNat (· ++[t])}:=by unfold fH;rw[if_pos h1]
  obtain⟨sl,hsl⟩:∃ a,w.near[(t.at_ % 8).toNat]? =some a:=⟨w.near[(t.at_ % 8).toNat]'(by omega),List.getElem?_eq_getElem _⟩
  rw[e,iQ hsl]
  have NG:=bC (List.mem_of_getElem? hsl)
  have ND:Sz.sz sl=sl.length+szs sl:=rfl
  obtain⟨b0,off,E,Fi,R,ev,⟨e0,rfl,re⟩,oF,el,hd,mR,mF⟩:=r0.elt (dA o) hsl
  subst ev
  have a0:At h b0 (off+(t.at_ % 8).toNat * 1) [e0]:=el.at_
  have hb0:=el.lt
  have oFi:=oF.1
  have hcb:b0≠c:=fun q=>(sp.own 0 _ rfl).2 (q▸mR b0 el.mem)
  (repeat' first|(rw[tm8 (show 0≤t.at_ by omega)])|refine vsw ?_|refine ao4 ?_|(refine br ?_ ?_<;>first|exact bo|intro _)|fail)
  refine iJ (n:=n) (a:=t) (cs:=t.cs) (G:=[]) (ah:au _ e0 sl Fi) ⟨rfl,rfl⟩ (by rw[List.append_nil];exact bA) (by simp;omega) rfl (by omega) (by omega) ?_
  intro v h2 f' ek k1 q1 o1 m1
  have el1:=(el.ext (aD:Ext h (h.push ⟨t.cs,0,0⟩))).kp k1 fun x hx hX=>hd x hX hx
  have hk1:=k1.1;(try simp only[aH,aN] at hk1)
  have nc1:c ∉ Fi:=fun q=>(sp.own 0 _ rfl).2 (mF c q)
  (repeat' first|refine vsw ?_|refine ao4 ?_|fail)
  refine Elt.st0 (o:=off+(t.at_ % 8).toNat * 1) el1 q1.cell rfl aX ?_
  intro h3 el2 k2 n2
  have nb1:b0 ∉ f':=fun q=>by
   rcases m1 b0 q with a|a|a
   ·exact hd b0 a el.mem
   ·cases a
   ·simp at a;omega
  obtain⟨F',q',o',m'⟩:=el2.done (x':=sl++[t]) (Fi':=f') ⟨_,rfl,aL k2 q1 (jh nb1)⟩ (dD k2 ⟨o1,q1.lt⟩ (jh nb1)).1 fun x hx hX=>by
   rcases m1 x hx with a|a|a
   ·exact hd x a hX
   ·cases a
   ·have:=lt0 x (mR x hX);simp at a;omega
  have K:Kp h h3 (c::f0):=((Kp.iA (aD:Ext h (h.push ⟨t.cs,0,0⟩))).trans (k1.mono fun x hx=>List.mem_cons_of_mem _ (mF x hx))).trans (k2.mono fun x hx=>by rw[List.mem_singleton.1 hx];exact List.mem_cons_of_mem _ (mR b0 el.mem))
  have mm:∀ x∈F',x∈f0∨h.n≤x:=fun x hx=>by
   rcases m' x hx with a|a
   ·exact .inl (mR x a)
   ·rcases m1 x a with a|a|a
    ·exact .inl (mF x a)
    ·cases a
    ·exact .inr (by simp at a;omega)
  have s2:=sp.jG (i:=0) (h':=h3) (f:=F') rfl K ⟨o',q'.lt⟩ (fun q=>by
   rcases mm c q with a|a
   ·exact(sp.own 0 _ rfl).2 a
   ·omega) fun x hx=>(mm x hx).imp id fun a hm=>by have:=lt x (by simpa using hm);omega
  obtain⟨oo,cc⟩:=qH s2
  have b3:Bk h3 c [.int .i64 w.now,(AV.sl b0 off w.near.length),u1,u2] 0:=bF k2 (bF k1 (jC bk) nc1) (Bz fun q=>hcb q.symm)
  (repeat' first|refine vsw ?_|fail)
  refine⟨rfl,_,rfl,rfl,_,u1,u2,F',f1,f2,b3,q',?_,?_,oo,cc,K.mono fun x hx=>?_,fun x hx=>?_⟩
  ·exact aL K r1 fun x hx hX=>(List.mem_cons.1 hX).elim (fun q=>(sp.own 1 _ rfl).2 (q▸hx)) fun q=>sp.dis 1 0 _ _ (by decide) rfl rfl x hx q
  ·exact aL K r2 fun x hx hX=>(List.mem_cons.1 hX).elim (fun q=>(sp.own 2 _ rfl).2 (q▸hx)) fun q=>sp.dis 2 0 _ _ (by decide) rfl rfl x hx q
  ·exact(List.mem_cons.1 hx).elim (fun q=>by rw[q];exact List.mem_cons_self) fun q=>List.mem_cons_of_mem _ (List.mem_append_left _ q)
  ·rcases List.mem_append.1 hx with q|q
   ·exact(mm x q).imp (fun a=>List.mem_cons_of_mem _ (List.mem_append_left _ a)) id
   ·exact .inl (List.mem_cons_of_mem _ (List.mem_append_right _ q))
 ·by_cases h2:t.at_ / 8 - w.now / 8 < 8
  ·have e:fH w t={w with far:=upd w.far (t.at_ / 8 % 8).toNat (· ++[t])}:=by unfold fH;rw[if_neg h1,if_pos h2]
   obtain⟨sl,hsl⟩:∃ a,w.far[(t.at_ / 8 % 8).toNat]? =some a:=⟨w.far[(t.at_ / 8 % 8).toNat]'(by omega),List.getElem?_eq_getElem _⟩
   rw[e,iQ hsl]
   have NG:=bC (List.mem_of_getElem? hsl)
   have ND:Sz.sz sl=sl.length+szs sl:=rfl
   obtain⟨b0,off,E,Fi,R,ev,⟨e0,rfl,re⟩,oF,el,hd,mR,mF⟩:=r1.elt (dA (bD o)) hsl
   subst ev
   have a0:At h b0 (off+(t.at_ / 8 % 8).toNat * 1) [e0]:=el.at_
   have hb0:=el.lt
   have oFi:=oF.1
   have hcb:b0≠c:=fun q=>(sp.own 1 _ rfl).2 (q▸mR b0 el.mem)
   (repeat' first|(rw[tm8 (show 0≤t.at_ / 8 by omega)])|refine vsw ?_|refine ao4 ?_|(refine br ?_ ?_<;>first|exact bo|intro _)|fail)
   refine iJ (n:=n) (a:=t) (cs:=t.cs) (G:=[]) (ah:au _ e0 sl Fi) ⟨rfl,rfl⟩ (by rw[List.append_nil];exact bA) (by simp;omega) rfl (by omega) (by omega) ?_
   intro v h4 f' ek k1 q1 o1 m1
   have el1:=(el.ext (aD:Ext h (h.push ⟨t.cs,0,0⟩))).kp k1 fun x hx hX=>hd x hX hx
   have hk1:=k1.1;(try simp only[aH,aN] at hk1)
   have nc1:c ∉ Fi:=fun q=>(sp.own 1 _ rfl).2 (mF c q)
   (repeat' first|refine vsw ?_|refine ao4 ?_|fail)
   refine Elt.st0 (o:=off+(t.at_ / 8 % 8).toNat * 1) el1 q1.cell rfl aX ?_
   intro h3 el2 k2 n2
   have nb1:b0 ∉ f':=fun q=>by
    rcases m1 b0 q with a|a|a
    ·exact hd b0 a el.mem
    ·cases a
    ·simp at a;omega
   obtain⟨F',q',o',m'⟩:=el2.done (x':=sl++[t]) (Fi':=f') ⟨_,rfl,aL k2 q1 (jh nb1)⟩ (dD k2 ⟨o1,q1.lt⟩ (jh nb1)).1 fun x hx hX=>by
    rcases m1 x hx with a|a|a
    ·exact hd x a hX
    ·cases a
    ·have:=lt1 x (mR x hX);simp at a;omega
   have K:Kp h h3 (c::f1):=((Kp.iA (aD:Ext h (h.push ⟨t.cs,0,0⟩))).trans (k1.mono fun x hx=>List.mem_cons_of_mem _ (mF x hx))).trans (k2.mono fun x hx=>by rw[List.mem_singleton.1 hx];exact List.mem_cons_of_mem _ (mR b0 el.mem))
   have mm:∀ x∈F',x∈f1∨h.n≤x:=fun x hx=>by
    rcases m' x hx with a|a
    ·exact .inl (mR x a)
    ·rcases m1 x a with a|a|a
     ·exact .inl (mF x a)
     ·cases a
     ·exact .inr (by simp at a;omega)
   have s2:=sp.jG (i:=1) (h':=h3) (f:=F') rfl K ⟨o',q'.lt⟩ (fun q=>by
    rcases mm c q with a|a
    ·exact(sp.own 1 _ rfl).2 a
    ·omega) fun x hx=>(mm x hx).imp id fun a hm=>by have:=lt x (by simpa using hm);omega
   obtain⟨oo,cc⟩:=qH s2
   have b3:Bk h3 c [.int .i64 w.now,u0,(AV.sl b0 off w.far.length),u2] 0:=bF k2 (bF k1 (jC bk) nc1) (Bz fun q=>hcb q.symm)
   (repeat' first|refine vsw ?_|fail)
   refine⟨rfl,_,rfl,rfl,u0,_,u2,f0,F',f2,b3,?_,q',?_,oo,cc,K.mono fun x hx=>?_,fun x hx=>?_⟩
   ·exact aL K r0 fun x hx hX=>(List.mem_cons.1 hX).elim (fun q=>(sp.own 0 _ rfl).2 (q▸hx)) fun q=>sp.dis 0 1 _ _ (by decide) rfl rfl x hx q
   ·exact aL K r2 fun x hx hX=>(List.mem_cons.1 hX).elim (fun q=>(sp.own 2 _ rfl).2 (q▸hx)) fun q=>sp.dis 2 1 _ _ (by decide) rfl rfl x hx q
   ·exact(List.mem_cons.1 hx).elim (fun q=>by rw[q];exact List.mem_cons_self) fun q=>List.mem_cons_of_mem _ (List.mem_append_right _ (List.mem_append_left _ q))
   ·rcases List.mem_append.1 hx with q|q
    ·exact .inl (List.mem_cons_of_mem _ (List.mem_append_left _ q))
    ·rcases List.mem_append.1 q with q|q
     ·exact(mm x q).imp (fun a=>List.mem_cons_of_mem _ (List.mem_append_right _ (List.mem_append_left _ a))) id
     ·exact .inl (List.mem_cons_of_mem _ (List.mem_append_right _ (List.mem_append_right _ q)))
  ·have e:fH w t={w with rest:=w.rest++[t]}:=by unfold fH;rw[if_neg h1,if_neg h2]
   rw[e]
   have o2:Own n h f2:=bD (bD o)
   have nc2:c ∉ f2:=(sp.own 2 _ rfl).2
   (repeat' first|refine vsw ?_|(with_reducible refine aW ?_)|(refine br ?_ ?_<;>first|exact bo|intro _)|fail)
   refine iJ (n:=n) (a:=t) (cs:=t.cs) (G:=[]) (ah:au _ u2 w.rest f2) ⟨rfl,rfl⟩ (by rw[List.append_nil];exact bA) (by simp;omega) rfl (by omega) (by omega) ?_
   intro v h4 f' ek k1 q1 o1 m1
   have hk1:=k1.1;(try simp only[aH,aN] at hk1)
   have b1:Bk h4 c [.int .i64 w.now,u0,u1,u2] 0:=bF k1 (jC bk) nc2
   have hb4:=b1.1
   (repeat' first|refine vsw ?_|(with_reducible refine aW ?_)|fail)
   have mm:∀ x∈f',x∈f2∨h.n≤x:=fun x hx=>by
    rcases m1 x hx with a|a|a
    ·exact .inl a
    ·cases a
    ·exact .inr (by simp at a;omega)
   have ncf:c ∉ f':=fun q=>by
    rcases mm c q with a|a
    ·exact nc2 a
    ·omega
   have K:Kp h (h4.upd c ⟨[.int .i64 w.now,u0,u1,v],0,0⟩) (c::f2):=((Kp.iA (aD:Ext h (h.push ⟨t.cs,0,0⟩))).trans (k1.mono fun x hx=>List.mem_cons_of_mem _ hx)).trans (fO.mono fun x hx=>by rw[List.mem_singleton.1 hx];exact List.mem_cons_self)
   have s2:=sp.jG (i:=2) (f:=f') rfl K (dN ⟨o1,q1.lt⟩ ncf) ncf fun x hx=>(mm x hx).imp id fun a hm=>by have:=lt x (by simpa using hm);omega
   obtain⟨oo,cc⟩:=qH s2
   refine⟨rfl,_,rfl,rfl,u0,u1,_,f0,f1,f',fP hb4,?_,?_,fC q1 ncf,oo,cc,K.mono fun x hx=>?_,fun x hx=>?_⟩
   ·exact aL K r0 fun x hx hX=>(List.mem_cons.1 hX).elim (fun q=>(sp.own 0 _ rfl).2 (q▸hx)) fun q=>sp.dis 0 2 _ _ (by decide) rfl rfl x hx q
   ·exact aL K r1 fun x hx hX=>(List.mem_cons.1 hX).elim (fun q=>(sp.own 1 _ rfl).2 (q▸hx)) fun q=>sp.dis 1 2 _ _ (by decide) rfl rfl x hx q
   ·exact(List.mem_cons.1 hx).elim (fun q=>by rw[q];exact List.mem_cons_self) fun q=>List.mem_cons_of_mem _ (List.mem_append_right _ (List.mem_append_right _ q))
   ·rcases List.mem_append.1 hx with q|q
    ·exact .inl (List.mem_cons_of_mem _ (List.mem_append_left _ q))
    ·rcases List.mem_append.1 q with q|q
     ·exact .inl (List.mem_cons_of_mem _ (List.mem_append_right _ (List.mem_append_left _ q)))
     ·exact(mm x q).imp (fun a=>List.mem_cons_of_mem _ (List.mem_append_right _ (List.mem_append_right _ a))) id
end
end Go.Proofs.YtkdjapahgmflbaaGreat
