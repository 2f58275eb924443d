import Derived.Test.YtcgjihfngdhjjaaGreatDW83
import Derived.Test.YtcgjihfngdhjjaaGreatDW132
set_option linter.unusedSimpArgs false
set_option linter.unusedVariables false
set_option maxHeartbeats 4000000
set_option maxRecDepth 20000
namespace Go.Proofs.YtcgjihfngdhjjaaGreat
open Go Go.Ab
attribute[local irreducible] dD
section
def Ru (x0:AV):Prog:=.op (.box x0) fun a=>.op (.alloc [.int .i64 0,.aA,.aA,.aA]) fun b=>Ld 4 a fun c=>Cl uH [c] fun c=>.op (.alloc [.int .i64 0,.aA,.aA,.aA]) fun d=>.op (.st 4 d c) fun _=>.op (.aS 3 0 [] []) fun c=>Ld 4 a fun e=>Cl kV [e] fun e=>.op (.una .not e) fun e=>Gf e false 0 a fun f=>.gop e false (.bin 0 .eql f (.int .i64 2147483647)) fun f=>Pk e (.bool true) f fun e=>.ite e (Ld 4 d fun a=>.op (.st 4 b a) fun _=>.fin [.cn 4 b,.val c]) (Lg 0 a fun a=>Bn .add a (.int .i64 1) fun a=>Sg 0 d a fun _=>Lg 0 d fun a=>Bn .rem a (.int .i64 8) fun a=>Lg 1 d fun e=>Ix 1 e a fun e=>.op (.ld1 e) fun e=>.op (.app 3 24 c e) fun c=>Lg 1 d fun e=>.op (.aS 3 0 [] []) fun f=>Ix 1 e a fun e=>.op (.st 1 e f) fun _=>Bn .neq a (.int .i64 0) fun a=>.ite a (Ld 4 d fun a=>.op (.st 4 b a) fun _=>.fin [.cn 4 b,.val c]) (Lg 0 d fun a=>Bn .quo a (.int .i64 8) fun a=>Bn .rem a (.int .i64 8) fun a=>.op (.aS 3 0 [] []) fun e=>Lg 2 d fun f=>Ix 1 f a fun f=>.op (.ld1 f) fun f=>.op (.fad 3 d) fun i=>.op (.ld1 i) fun j=>.op (.app 3 24 e f) fun e=>.chk (.ld1 i) j (.op (.app 3 24 e j) fun e=>Lg 2 d fun f=>.op (.aS 3 0 [] []) fun i=>Ix 1 f a fun a=>.op (.st 1 a i) fun _=>.op (.aS 3 0 [] []) fun a=>Sg 3 d a fun _=>.loop [c,.int .i64 0] (fun a=>Ln 0 e fun b=>Bn .lss (g a 1) b fun b=>.ite b (Ix 3 e (g a 1) fun b=>Lg 2 b fun b=>Lg 0 d fun c=>Bn .leq b c fun b=>.scope (.ite b (Ix 3 e (g a 1) fun b=>Ld 3 b fun b=>.op (.aS 3 1 [.int .i64 0,.int .i64 0,.int .i64 0] [(0,3,b)]) fun b=>.op (.app 3 24 (g a 0) b) fun a=>.leaf 0 [a]) (Ix 3 e (g a 1) fun b=>Ld 3 b fun b=>Cl FK [d,b] fun _=>.leaf 0 [g a 0])) (fun b=>Bn .add (g a 1) (.int .i64 1) fun a=>.leaf 0 [g b 0,a]) fun a b=>aC a 1 (.leaf 1 b) .bad) (.leaf 2 [g a 0,g a 1])) fun a c=>aC a 1 (.leaf 1 c) (aC a 2 (Ld 4 d fun a=>.op (.st 4 b a) fun _=>.fin [.cn 4 b,.val (g c 0)]) .bad))))
theorem adX (x0:AV):CC Tryz.prog KF [x0] (Ru x0):=cc Tryz.func259 [2,4,5,8,9] (fun r=>if r=12 then[(0,[]),(1,[]),(2,[]),(3,[]),(4,[]),(5,[]),(7,[]),(8,[]),(6,[8]),(9,[]),(10,[])] else if r=18 then[(0,[]),(1,[]),(2,[]),(3,[]),(4,[]),(5,[]),(6,[]),(7,[])] else[])
end
def X3 (h:AH) (w':bn) (l:List Ab.Timer):AV→AH→Prop:=fun u h'=>Ext h h'∧∃ u0 u1 u2 f0 f1 f2 v g,u= .tup [.agg [.int .i64 w'.now,u0,u1,u2],v]∧ah h' u0 w'.near f0∧ah h' u1 w'.far f1∧ah h' u2 w'.rest f2∧Own h.n h' (f0++(f1++f2))∧ah h' v l g∧Own h.n h' g
abbrev zW:List AV:=[.int .i64 0,.aA,.aA,.aA]
theorem aki (w:bn):Sz.sz w=(w.near.length+szs w.near)+(w.far.length+szs w.far)+(w.rest.length+szs w.rest):=rfl
theorem Gq {h:AH} {v:AV} {l:List Ab.Timer} {F:List Nat} (r:ah h v l F):F.tail=[]:=by rcases r.flat with⟨_,_,rfl⟩|⟨b,_,_,_,rfl,_⟩<;>rfl
section
variable{h:AH} {w:bn} {u0 u1 u2:AV} {f0 f1 f2:List Nat}
theorem adn (hw:WhI w) (hnm:w.now < 2147483647) (r0:ah h u0 w.near f0) (r1:ah h u1 w.far f1) (r2:ah h u2 w.rest f2):bq Tryz.prog KF [.agg (w.cs u0 u1 u2)] h (X3 h (gL w).1 (gL w).2):=by
 have hs:=BP hw
 have hs1:Sz.sz w≤67108864:=by omega
 have hwo:=iw.2 hw
 have iD:=hw.now
 have hnl:=hw.nl
 have hfl:=hw.fl
 have m8:=I5 (show 0≤w.now+1 by omega)
 have m88:=I5 (show 0≤(w.now+1) / 8 by omega)
 obtain⟨nA,hA⟩:∃ a,w.near[((w.now+1) % 8).toNat]? =some a:=⟨w.near[((w.now+1) % 8).toNat]'(by omega),List.getElem?_eq_getElem _⟩
 obtain⟨fA,hB⟩:∃ a,w.far[((w.now+1) / 8 % 8).toNat]? =some a:=⟨w.far[((w.now+1) / 8 % 8).toNat]'(by omega),List.getElem?_eq_getElem _⟩
 have eN:fT w=nA:=by unfold fT;rw[hA];rfl
 have eF:fJ w=fA:=by unfold fJ;rw[hB];rfl
 have z1:=dh (List.mem_of_getElem? hA)
 have z2:=dh (List.mem_of_getElem? hB)
 have z3:Sz.sz nA=nA.length+szs nA:=rfl
 have z4:Sz.sz fA=fA.length+szs fA:=rfl
 rw[aki] at hs
 refine adX _ ?_
 unfold Ru
 (repeat' first|refine vsx ?_|fail)
 refine aL (yJ w hs1 _ _ _ ⟨_,_,_,_,_,_,rfl,rfl,aB,aB,aB⟩) ?_
 rintro _ h1 ⟨e1,_,_,rfl,⟨a0,a1,a2,gA,gB,gC,rfl,rfl,q0,q1,q2⟩,oc⟩
 have n1:=e1.1;(try simp only[aJ,aN] at n1)
 have oc:Own (h.n+1+1) h1 (gA++(gB++gC)):=by simpa using oc
 have ltc:∀ d∈gA++(gB++gC),d < h1.n:=fun d hd=>by
  rcases List.mem_append.1 hd with q|q
  ·exact q0.lt d q
  rcases List.mem_append.1 q with q|q
  ·exact q1.lt d q
  ·exact q2.lt d q
 have nc1:h1.n ∉ gA++(gB++gC):=fun q=>by have:=ltc _ q;omega
 obtain⟨b0,off,E,Fi,R,ev,⟨e0,rfl,re⟩,oF,el,hd,mR,mF⟩:=q0.elt (fB oc) hA
 subst ev
 have at0:At h1 b0 (off+((w.now+1) % 8).toNat * 1) [e0]:=el.at_
 have nb0:h.n+1+1≤b0:=(el.own.1.2 b0 el.mem).1
 have lb0:=el.lt
 have W0:fQ (h.n+1+1) (h1.push ⟨[.int .i64 (w.now+1),.sl b0 off w.near.length,a1,a2],0,0⟩) h1.n {w with now:=w.now+1} (.sl b0 off w.near.length) a1 a2 gA gB gC:=⟨gF,dU q0,dU q1,dU q2,(gy ⟨oc,ltc⟩).1,nc1⟩
 (repeat' first|(rw[tm8 (show 0≤w.now+1 by omega)])|refine vsx ?_|refine bP ?_|(refine br ?_ ?_<;>first|exact bo|intro _)|((with_reducible refine aG kV ?_);(refine bC (uD hs1 aB aB aB) ?_ ?_<;>intro hn))|fail)
 all_goals try(exfalso;exact absurd hwo (by assumption))
 rw[show(h1.push ⟨[.int .i64 w.now,.sl b0 off w.near.length,a1,a2],0,0⟩).n=(h1.push ⟨[.int .i64 (w.now+1),.sl b0 off w.near.length,a1,a2],0,0⟩).n from rfl]
 refine XZ (n:=h.n+1+1) (dU re:ah _ e0 nA Fi) (by rw[Gq re];exact Own.nil) (by simp only[aJ];omega) rfl (by omega) ?_
 intro ud k1 gd x1 qd od md
 have md:∀ d∈gd,h1.n+1≤d:=fun d hd=>by
  rcases md d hd with q|q
  ·rw[Gq re] at q;cases q
  ·simpa using q
 have m1:=x1.1;simp only[aJ] at m1
 have Wk:=W0.ext x1
 have W1:=Wk.ext ((Ext.refl k1).push ⟨[],3,0⟩)
 have bW1:Bk k1 h1.n [.int .i64 (w.now+1),.sl b0 off w.near.length,a1,a2] 0:=Wk.bk
 have B1:Bk (k1.push ⟨[],3,0⟩) (h.n+1) zW 0:=aO
 have X1:Ext h (k1.push ⟨[],3,0⟩):=((((((Ext.refl h).push _).push _).trans e1).push _).trans x1).push _
 have qd1:ah (k1.push ⟨[],3,0⟩) ud nA gd:=dU qd
 have od1:Own (h.n+1+1) (k1.push ⟨[],3,0⟩) gd:=(gy ⟨od,qd.lt⟩).1
 obtain⟨c,hc⟩:∃ c,c=h1.n:=⟨_,rfl⟩
 have lc:h.n+1+1≤c:=by omega
 have Nu:∀ d∈gA++(gB++gC),d < c:=fun d hd=>by have:=ltc d hd;omega
 rw[←hc] at md W1 bW1 ⊢
 have Wlt:=Wk.lt
 have lgd:=qd.lt
 clear W0 Wk re od qd q0 q1 q2 el at0 x1 e1 oc ltc nc1
 (repeat' first|refine vsx ?_|refine bP ?_|fail)
 refine W1.set0 (sl:=nA) hA (l:=[]) (gu rfl).1 ((gu (h:=k1) (α:=Ab.Timer) (w:=3) rfl).2 _ (by omega)) (fun d hd hm=>?_) ?_
 ·rw[List.mem_singleton.1 hd] at hm
  rcases List.mem_cons.1 hm with q|q
  ·omega
  ·have:=Wlt _ q;omega
 intro y2 F0 W2 k2 mb0 n2 mm
 have W2:fQ (h.n+1+1) y2 c (iW w) (.sl b0 off w.near.length) a1 a2 F0 gB gC:=W2
 clear bW1 W1
 have n2:y2.n=k1.n+1:=by simpa using n2
 have b0c:∀ d∈gd,d ∉ [b0]:=fun d hd hm=>by have:=md d hd;rw[List.mem_singleton.1 hm] at this;omega
 have bz2:Bk y2 (h.n+1) zW 0:=bI k2 B1 (iL (by omega))
 have X2:Ext h y2:=k2.ext X1 fun d hd=>by rw[List.mem_singleton.1 hd];omega
 have rd2:ah y2 ud nA gd:=aK k2 qd1 b0c
 have od2:Own (h.n+1+1) y2 gd:=(bX k2 ⟨od1,qd1.lt⟩ b0c).1
 have dd2:∀ d∈gd,d ∉ c::(F0++(gB++gC)):=fun d hd hm=>by
  have h1:=md d hd
  have h2:=lgd d hd
  rcases List.mem_cons.1 hm with q|q
  ·omega
  rcases List.mem_append.1 q with q|q
  ·rcases mm d q with r|r
   ·have:=Nu d (List.mem_append_left _ r);omega
   ·rw[List.mem_singleton.1 r] at h2;omega
  ·have:=Nu d (List.mem_append_right _ q);omega
 have bW2:Bk y2 c [.int .i64 (w.now+1),.sl b0 off w.near.length,a1,a2] 0:=W2.bk
 have en2:(h.push ⟨w.cs u0 u1 u2,0,0⟩).n=h.n+1:=rfl
 rw[en2]
 have hlc:=bW2.1
 have hl2:=bz2.1
 by_cases hs0:(w.now+1) % 8≠0
 ·have e:gL w=(iW w,fT w):=by unfold gL;rw[if_pos hs0]
  rw[e,eN]
  (repeat' first|refine vsw ?_|(refine br ?_ ?_<;>first|exact bo|intro _)|fail)
  all_goals try(exfalso;omega)
  obtain⟨p0,p1,p2,p3⟩:=W2.out (z:=h.n+1) (k:=⟨[.int .i64 (w.now+1),.sl b0 off w.near.length,a1,a2],0,0⟩) (by omega)
  have nz:h.n+1 ∉ gd:=fun q=>by have:=(od2.2 _ q).1;omega
  exact⟨rfl,_,rfl,X2.upd (by omega) _,_,_,_,_,_,_,_,_,rfl,p0,p1,p2,p3.mono (by omega) fun _ _=>rfl,dH rd2 nz,(dM ⟨od2,rd2.lt⟩ nz).1.mono (by omega) fun _ _=>rfl⟩
 have hs1:(w.now+1) % 8=0:=by omega
 have e:gL w=(fJ w++w.rest).foldl (iZ (w.now+1)) (gT w,fT w):=by unfold gL;rw[if_neg hs0]
 rw[e]
 have hB2:(iW w).far[((w.now+1) / 8 % 8).toNat]? =some fA:=hB
 obtain⟨b1,off1,e1,Fi1,hu1,at1,re1,mb1,mF1⟩:=W2.Dv hB2
 subst hu1
 have nb1:h.n+1+1≤b1:=(W2.o.2 b1 (List.mem_append_right _ (List.mem_append_left _ mb1))).1
 have lb1:b1 < c:=Nu b1 (List.mem_append_right _ (List.mem_append_left _ mb1))
 have at1:At y2 b1 (off1+((w.now+1) / 8 % 8).toNat * 1) [e1]:=at1
 have alH:(iW w).far.length=8:=hfl
 (repeat' first|(rw[tm8 (show 0≤(w.now+1) / 8 by omega)])|refine vsx ?_|refine bP ?_|(refine br ?_ ?_<;>first|exact bo|intro _)|fail)
 all_goals try(exfalso;omega)
 have I7:=W2.lt
 refine XZ (n:=h.n+1+1) re1 (by rw[Gq re1];exact Own.nil) (by omega) rfl (by omega) ?_
 intro mv1 y3 gm x3 qm om mm3
 have mm3:∀ d∈gm,y2.n≤d:=fun d hd=>by
  rcases mm3 d hd with q|q
  ·rw[Gq re1] at q;cases q
  ·exact q
 have n3:=x3.1
 have bW3:Bk y3 c [.int .i64 (w.now+1),.sl b0 off w.near.length,.sl b1 off1 (iW w).far.length,a2] 0:=fq x3 bW2
 (repeat' first|refine vsx ?_|fail)
 have hrl:(iW w).rest.length=w.rest.length:=rfl
 refine IJ (n:=h.n+1+1) qm (iG x3 W2.r2) om (by omega) rfl (by rw[hrl];omega) (by rw[hrl];omega) ?_
 intro mv y4 gm2 k4 qm2 om2 mm4
 have mm4:∀ d∈gm2,y2.n≤d:=fun d hd=>by
  rcases mm4 d hd with q|q
  ·exact mm3 d q
  ·omega
 have n4:=k4.1
 have W4:=(W2.ext x3).kp k4 (fun q=>by have:=mm3 c q;omega) fun d hd q=>by have:=mm3 d q;have:=I7 d hd;omega
 have lg2:∀ d∈gd,d < y2.n:=fun d hd=>by have:=lgd d hd;omega
 have dgm:∀ d∈gd,d ∉ gm:=fun d hd q=>by have:=mm3 d q;have:=lg2 d hd;omega
 have rd4:ah y4 ud nA gd:=aK k4 (iG x3 rd2) dgm
 have od4:Own (h.n+1+1) y4 gd:=(bX k4 (jk x3 ⟨od2,rd2.lt⟩) dgm).1
 have bz4:Bk y4 (h.n+1) zW 0:=bI k4 (fq x3 bz2) fun q=>by have:=mm3 _ q;omega
 have X4:Ext h y4:=k4.ext (X2.trans x3) fun d hd=>by have:=mm3 d hd;omega
 have bW4:Bk y4 c [.int .i64 (w.now+1),.sl b0 off w.near.length,.sl b1 off1 (iW w).far.length,a2] 0:=W4.bk
 (repeat' first|refine vsx ?_|refine bP ?_|fail)
 refine(W4.ext ((Ext.refl y4).push ⟨[],3,0⟩)).set1 (sl:=fA) hB2 (l:=[]) (gu rfl).1 ((gu (h:=y4) (α:=Ab.Timer) (w:=3) rfl).2 _ (by omega)) (fun d hd hm=>?_) ?_
 ·rw[List.mem_singleton.1 hd] at hm
  rcases List.mem_cons.1 hm with q|q
  ·omega
  ·have:=I7 _ q;omega
 intro y5 F1 W6 k5 mb5 n5 mm5
 have n5:y5.n=y4.n+1:=by simpa using n5
 have akO:∀ {d},y2.n≤d→d ∉ [b1]:=fun hd hm=>by rw[List.mem_singleton.1 hm] at hd;omega
 have dgb:∀ d∈gd,d ∉ [b1]:=fun d hd hm=>by have:=md d hd;rw[List.mem_singleton.1 hm] at hd;exact dd2 b1 hd (List.mem_cons_of_mem _ (List.mem_append_right _ (List.mem_append_left _ mb1)))
 have rd5:ah y5 ud nA gd:=aK k5 (dU rd4) dgb
 have od5:Own (h.n+1+1) y5 gd:=(bX k5 (gy ⟨od4,rd4.lt⟩) dgb).1
 have bz5:Bk y5 (h.n+1) zW 0:=bI k5 (iy bz4) (iL (by omega))
 have X5:Ext h y5:=k5.ext (X4.push _) fun d hd=>by rw[List.mem_singleton.1 hd];omega
 have qm5:ah y5 mv (fA++(iW w).rest) gm2:=aK k5 (dU qm2) fun d hd=>akO (mm4 d hd)
 have bW5:Bk y5 c [.int .i64 (w.now+1),.sl b0 off w.near.length,.sl b1 off1 (iW w).far.length,a2] 0:=W6.bk
 have hc5:=bW5.1
 have lg6:∀ d∈gm2,d < y5.n:=qm5.lt
 have akQ:=W6.lt
 (repeat' first|refine vsx ?_|fail)
 have W7:fQ (h.n+1+1) ((y5.push ⟨[],3,0⟩).upd c ⟨[.int .i64 (w.now+1),.sl b0 off w.near.length,.sl b1 off1 (iW w).far.length,.sl y5.n 0 0],0,0⟩) c (gT w) (.sl b0 off w.near.length) (.sl b1 off1 (iW w).far.length) (.sl y5.n 0 0) F0 F1 [y5.n]:=(W6.ext ((Ext.refl y5).push ⟨[],3,0⟩)).akF (t:=w.now+1) (l:=[]) (gu rfl).1 ((gu (h:=y5) (α:=Ab.Timer) (w:=3) rfl).2 _ (by omega)) fun d hd hm=>by
  rw[List.mem_singleton.1 hd] at hm
  rcases List.mem_cons.1 hm with q|q
  ·omega
  ·have:=akQ _ q;omega
 have ncd:c ∉ gd:=fun q=>dd2 c q List.mem_cons_self
 have ncm:c ∉ gm2:=fun q=>by have:=mm4 c q;omega
 have fr6:∀ d∈c::(F0++(F1++[y5.n])),d < y2.n∨d=k1.n∨d=y4.n∨d=y5.n:=fun d hd=>by
  rcases List.mem_cons.1 hd with q|q
  ·exact .inl (by omega)
  rcases List.mem_append.1 q with q|q
  ·exact .inl (I7 d (List.mem_append_left _ q))
  rcases List.mem_append.1 q with q|q
  ·rcases mm5 d q with r|r
   ·exact .inl (I7 d (List.mem_append_right _ (List.mem_append_left _ r)))
   ·exact .inr (.inr (.inl (List.mem_singleton.1 r)))
  ·exact .inr (.inr (.inr (List.mem_singleton.1 q)))
 have lg4:∀ d∈gm2,d < y4.n:=qm2.lt
 rw[show(y5.upd c ⟨[.int .i64 (w.now+1),.sl b0 off w.near.length,.sl b1 off1 (iW w).far.length,.sl y5.n 0 0],0,0⟩).push ⟨[],3,0⟩=(y5.push ⟨[],3,0⟩).upd c ⟨[.int .i64 (w.now+1),.sl b0 off w.near.length,.sl b1 off1 (iW w).far.length,.sl y5.n 0 0],0,0⟩ from(SN hc5 _ _).symm]
 obtain⟨Y,hY⟩:∃ Y,Y=(y5.push ⟨[],3,0⟩).upd c ⟨[.int .i64 (w.now+1),.sl b0 off w.near.length,.sl b1 off1 (iW w).far.length,.sl y5.n 0 0],0,0⟩:=⟨_,rfl⟩
 have rdY:ah Y ud (fT w) gd:=by rw[hY,eN];exact dH (dU rd5) ncd
 have odY:Own (h.n+1+1) Y gd:=by rw[hY];exact(dM (gy ⟨od5,rd5.lt⟩) ncd).1
 have bzY:Bk Y (h.n+1) zW 0:=by rw[hY];exact kr (iy bz5) (by omega)
 have XY:Ext h Y:=by rw[hY];exact(X5.push _).upd (by omega) _
 have qmY:ah Y mv (fJ w++w.rest) gm2:=by rw[hY,eF];exact dH (dU qm5) ncm
 have lY:c < Y.n:=by rw[hY];simp;omega
 have ddY:∀ d∈gd,d ∉ c::(F0++(F1++[y5.n])):=fun d hd hm=>by
  have l1:=lg2 d hd
  rcases List.mem_cons.1 hm with q|q
  ·exact dd2 d hd (by rw[q];exact List.mem_cons_self)
  rcases List.mem_append.1 q with q|q
  ·exact dd2 d hd (List.mem_cons_of_mem _ (List.mem_append_left _ q))
  rcases List.mem_append.1 q with q|q
  ·rcases mm5 d q with r|r
   ·exact dd2 d hd (List.mem_cons_of_mem _ (List.mem_append_right _ (List.mem_append_left _ r)))
   ·have:=List.mem_singleton.1 r;omega
  ·have:=List.mem_singleton.1 q;omega
 have dmY:∀ d∈gm2,d ∉ c::(F0++(F1++[y5.n]))∧d ∉ gd:=fun d hd=>⟨fun hm=>by
  have l1:=mm4 d hd;have l2:=lg4 d hd
  rcases fr6 d hm with q|q|q|q<;>omega,fun hm=>by have:=lg2 d hm;have:=mm4 d hd;omega⟩
 rw[←hY] at W7 ⊢
 clear rd5 od5 bz5 X5 qm5 bW5 W6 k5 bW4 X4 bz4 od4 rd4 W4 qm2 om2 k4 bW3 om qm x3 at1 W2 bW2 k2 dd2 od2 rd2 X2 bz2 od1 qd1 X1 B1 hY re1 mb1 mF1
 have hml:(fJ w++w.rest).length≤100:=by rw[eF,List.length_append];omega
 refine aX (fJ w++w.rest).length (fun i vs hh=>∃ ud gd u0 u1 u2 f0 f1 f2,vs=[ud,.int .i64 (i:Int)]∧i≤(fJ w++w.rest).length∧fQ (h.n+1+1) hh c (((fJ w++w.rest).take i).foldl (iZ (w.now+1)) (gT w,fT w)).1 u0 u1 u2 f0 f1 f2∧ah hh ud (((fJ w++w.rest).take i).foldl (iZ (w.now+1)) (gT w,fT w)).2 gd∧Own (h.n+1+1) hh gd∧(∀ d∈gd,d ∉ c::(f0++(f1++f2)))∧ah hh mv (fJ w++w.rest) gm2∧(∀ d∈gm2,d ∉ c::(f0++(f1++f2))∧d ∉ gd)∧Bk hh (h.n+1) zW 0∧Ext h hh) ⟨ud,gd,_,_,_,_,_,_,rfl,Nat.zero_le _,W7,rdY,odY,ddY,qmY,dmY,bzY,XY⟩ ?_
 clear W7 rdY odY ddY qmY dmY bzY XY lY
 rintro i vs hh _ ⟨ud,gd,u0,u1,u2,f0,f1,f2,rfl,hi,W,rd,od,dd,qm,dm,bz,X⟩
 obtain⟨wi,wn,wl⟩:=agS hw hnm hs1 i
 have bW:=W.bk
 have hcl:=bW.1
 have hlz:=bz.1
 have hno:h.n+1+1≤hh.n:=by omega
 simp only[g0,g1]
 obtain⟨p,hp⟩:∃ p,p=((fJ w++w.rest).take i).foldl (iZ (w.now+1)) (gT w,fT w):=⟨_,rfl⟩
 rw[←hp] at wi wn wl W rd bW
 by_cases hlt:i < (fJ w++w.rest).length
 ·obtain⟨t,ht,-,htk⟩:=aU hlt
  have hF:=(MU hw hnm hs1).2.2.2.1 t (List.mem_of_getElem? ht)
  rw[htk,List.foldl_append,←hp]
  (repeat' first|refine vsx ?_|(refine br ?_ ?_<;>first|exact bo|intro _)|((with_reducible refine bB ?_);((refine ix ?_);rintro _ _ _ _ _ ⟨rfl,rfl⟩ _))|fail)
  all_goals try(exfalso;omega)
  ·have nct:c ∉ gd:=fun q=>dd c q List.mem_cons_self
   have X1:Ext hh (hh.push ⟨t.cs,3,0⟩):=(Ext.refl _).push _
   have e1:List.foldl (iZ (w.now+1)) p [t]=(p.1,p.2++[t]):=by show iZ (w.now+1) p t=_;unfold iZ;rw[if_pos (by omega)]
   rw[e1]
   refine iC (n:=h.n+1+1) (a:=t) (cs:=t.cs) (G:=[]) rd ⟨rfl,rfl⟩ (by rw[List.append_nil];exact od) hno rfl (by omega) (by omega) ?_
   intro ud' h2 gd' _ k2 rd2 od2 m2
   have n2:=k2.1
   have m2:∀ d∈gd',d∈gd∨hh.n≤d:=fun d hd=>by
    rcases m2 d hd with q|q|q
    ·exact .inl q
    ·cases q
    ·exact .inr q
   have ltW:=W.lt
   have W2:=W.kp k2 nct fun d hd q=>dd d q (List.mem_cons_of_mem _ hd)
   have qm2:ah h2 mv (fJ w++w.rest) gm2:=aK k2 qm fun d hd=>(dm d hd).2
   have bz2:Bk h2 (h.n+1) zW 0:=bI k2 bz fun q=>by have:=(od.2 _ q).1;omega
   have lm:=qm.lt
   (repeat' first|refine vsx ?_|fail)
   refine⟨hlt,ud',gd',u0,u1,u2,f0,f1,f2,rfl,by omega,W2,rd2,od2,fun d hd hm=>?_,qm2,fun d hd=>⟨(dm d hd).1,fun hm=>?_⟩,bz2,k2.ext X fun d hd=>by have:=(od.2 d hd).1;omega⟩
   ·rcases m2 d hd with q|q
    ·exact dd d q hm
    ·rcases List.mem_cons.1 hm with r|r
     ·omega
     ·have:=ltW d r;omega
   ·rcases m2 d hm with q|q
    ·exact(dm d hd).2 q
    ·have:=lm d hd;omega
  ·have e1:List.foldl (iZ (w.now+1)) p [t]=(dV p.1 t,p.2):=by show iZ (w.now+1) p t=_;unfold iZ;rw[if_neg (by omega)]
   rw[e1]
   refine aL (R6 (t:=t) W.bk W.r0 W.r1 W.r2 W.o W.nc hno wi.now (by omega) ⟨wi.nl,wi.fl⟩ (by have:=BP wi;omega)) ?_
   rintro _ h2 ⟨rfl,a0,a1,a2,y0,y1,y2,b2,q0,q1,q2,oo,c2,k2,m2⟩
   have ltW:=W.lt
   have lm:=qm.lt
   have ld:=rd.lt
   (repeat' first|refine vsx ?_|fail)
   refine⟨hlt,ud,gd,a0,a1,a2,y0,y1,y2,rfl,by omega,⟨b2,q0,q1,q2,oo,c2⟩,aK k2 rd dd,(bX k2 ⟨od,rd.lt⟩ dd).1,fun d hd hm=>?_,aK k2 qm fun d hd=>(dm d hd).1,fun d hd=>⟨fun hm=>?_,(dm d hd).2⟩,bI k2 bz fun q=>?_,k2.ext X fun d hd=>?_⟩
   ·rcases List.mem_cons.1 hm with q|q
    ·exact dd d hd (by rw[q];exact List.mem_cons_self)
    ·rcases m2 d q with r|r
     ·exact dd d hd r
     ·have:=ld d hd;omega
   ·rcases List.mem_cons.1 hm with q|q
    ·exact(dm d hd).1 (by rw[q];exact List.mem_cons_self)
    ·rcases m2 d q with r|r
     ·exact(dm d hd).1 r
     ·have:=lm d hd;omega
   ·rcases List.mem_cons.1 q with r|r
    ·omega
    ·have:=(W.o.2 _ r).1;omega
   ·rcases List.mem_cons.1 hd with r|r
    ·omega
    ·have:=(W.o.2 _ r).1;omega
 ·have ei:i=(fJ w++w.rest).length:=by omega
  rw[ei,List.take_length] at hp
  rw[←hp]
  (repeat' first|refine vsw ?_|(refine br ?_ ?_<;>first|exact bo|intro _)|fail)
  all_goals try(exfalso;omega)
  obtain⟨p0,p1,p2,p3⟩:=W.out (z:=h.n+1) (k:=⟨[.int .i64 p.1.now,u0,u1,u2],0,0⟩) (by omega)
  have nz:h.n+1 ∉ gd:=fun q=>by have:=(od.2 _ q).1;omega
  exact⟨rfl,_,rfl,X.upd (by omega) _,_,_,_,_,_,_,_,_,rfl,p0,p1,p2,p3.mono (by omega) fun _ _=>rfl,dH rd nz,(dM ⟨od,rd.lt⟩ nz).1.mono (by omega) fun _ _=>rfl⟩
end
end Go.Proofs.YtcgjihfngdhjjaaGreat
