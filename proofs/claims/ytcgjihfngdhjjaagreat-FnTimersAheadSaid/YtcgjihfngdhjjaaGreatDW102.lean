import Derived.Test.YtcgjihfngdhjjaaGreatDW137
import Derived.Test.YtcgjihfngdhjjaaGreatDW116
import Derived.Test.YtcgjihfngdhjjaaGreatDW60
import Derived.Test.YtcgjihfngdhjjaaGreatDW75
section
set_option linter.unusedSimpArgs false
set_option linter.unusedVariables false
set_option maxHeartbeats 4000000
set_option maxRecDepth 20000
namespace Go.Proofs.YtcgjihfngdhjjaaGreat
open Go Go.Ab
attribute[local irreducible] dD
section
def Qy (x0 x1:AV):Prog:=.op (.box x0) fun a=>.op (.alloc [.int .i64 0,.aA,.aA,.aA]) fun b=>Ld 4 a fun a=>Cl uH [a] fun a=>.op (.alloc [.int .i64 0,.aA,.aA,.aA]) fun c=>.op (.st 4 c a) fun _=>.op (.aS 3 0 [] []) fun a=>Cl dJ [x1,.int .i64 0,.int .i64 200] fun d=>.op (.una .not d) fun d=>.ite d (Ld 4 c fun c=>.op (.st 4 b c) fun _=>.fin [.cn 4 b,.val a]) (.loop [a,.int .i64 0] (fun a=>Bn .lss (g a 1) x1 fun b=>.ite b (Ld 4 c fun b=>Cl KF [b] fun b=>.op (.ext b 0) fun d=>.op (.ext b 1) fun b=>.op (.alloc [.int .i64 0,.aA,.aA,.aA]) fun e=>.op (.st 4 e d) fun _=>Ld 4 e fun d=>.op (.st 4 c d) fun _=>.op (.app 3 24 (g a 0) b) fun b=>Bn .add (g a 1) (.int .i64 1) fun a=>.leaf 0 [b,a]) (.leaf 2 [g a 0,g a 1])) fun a d=>aC a 1 (.leaf 1 d) (aC a 2 (Ld 4 c fun a=>.op (.st 4 b a) fun _=>.fin [.cn 4 b,.val (g d 0)]) .bad))
theorem acW (x0 x1:AV):CC Tryz.prog Ko [x0,x1] (Qy x0 x1):=cc Tryz.func231 [1,4,6,7,8] (fun _=>[])
end
section
variable{h:AH} {w:bn} {u0 u1 u2:AV} {f0 f1 f2:List Nat}
theorem Ww {w:bn} (h:WhI w) (n:Nat) (hn:w.now+n≤2147483647):(dA w n).2.length≤16:=by
 have h1:=(zZ h n hn).2.2.1.length_eq
 rw[List.length_append] at h1
 have:=h.len;omega
theorem acf {n:Nat} (hw:WhI w) (hn:w.now+n < 2147483647) (h20:n≤200) (r0:ah h u0 w.near f0) (r1:ah h u1 w.far f1) (r2:ah h u2 w.rest f2):bq Tryz.prog Ko [.agg (w.cs u0 u1 u2),.int .i64 (n:Int)] h (X3 h (dA w n).1 (dA w n).2):=by
 have hs:=BP hw
 have hs1:Sz.sz w≤67108864:=by omega
 have iD:=hw.now
 refine acW _ _ ?_
 unfold Qy
 (repeat' first|refine vsx ?_|fail)
 refine aL (yJ w hs1 _ _ _ ⟨_,_,_,_,_,_,rfl,rfl,aB,aB,aB⟩) ?_
 rintro _ h1 ⟨e1,_,_,rfl,⟨a0,a1,a2,gA,gB,gC,rfl,rfl,q0,q1,q2⟩,oc⟩
 have n1:=e1.1;(try simp only[aJ,aN] at n1)
 have oc:Own (h.n+1+1) h1 (gA++(gB++gC)):=by simpa using oc
 have ltc:∀ d∈gA++(gB++gC),d < h1.n:=fun d hd=>by
  rcases List.mem_append.1 hd with q|q
  ·exact q0.lt d q
  rcases List.mem_append.1 q with q|q
  ·exact q1.lt d q
  ·exact q2.lt d q
 have nc1:h1.n ∉ gA++(gB++gC):=fun q=>by have:=ltc _ q;omega
 (repeat' first|refine vsx ?_|((with_reducible refine aG dJ ?_);(refine dS (j5) ?_ ?_<;>intro hb<;>(first|replace hb:=fE hb|replace hb:=fG hb)))|fail)
 all_goals try(exfalso;omega)
 have W0:fQ (h.n+1+1) ((h1.push ⟨[.int .i64 w.now,a0,a1,a2],0,0⟩).push ⟨[],3,0⟩) h1.n w a0 a1 a2 gA gB gC:=⟨iy gF,dU (dU q0),dU (dU q1),dU (dU q2),(gy (gy ⟨oc,ltc⟩)).1,nc1⟩
 obtain⟨re,oe⟩:=gu (h:=h1.push ⟨[.int .i64 w.now,a0,a1,a2],0,0⟩) (α:=Ab.Timer) (w:=3) rfl
 obtain⟨c,hc⟩:∃ c,c=h1.n:=⟨_,rfl⟩
 rw[←hc] at W0
 have B0:Bk ((h1.push ⟨[.int .i64 w.now,a0,a1,a2],0,0⟩).push ⟨[],3,0⟩) (h.n+1) zW 0:=aO
 rw[←hc]
 rw[show(h.push ⟨w.cs u0 u1 u2,0,0⟩).n=h.n+1 from rfl]
 refine aX n (fun i vs hh=>∃ ud gd u0 u1 u2 f0 f1 f2,vs=[ud,.int .i64 (i:Int)]∧i≤n∧fQ (h.n+1+1) hh c (dA w i).1 u0 u1 u2 f0 f1 f2∧ah hh ud (dA w i).2 gd∧Own (h.n+1+1) hh gd∧(∀ d∈gd,d ∉ c::(f0++(f1++f2)))∧Bk hh (h.n+1) zW 0∧Ext h hh∧h.n+1+1≤c) ⟨_,[h1.n+1],a0,a1,a2,gA,gB,gC,rfl,Nat.zero_le _,W0,re,oe _ (by simp only[aJ];omega),fun d hd hm=>?_,B0,aI,by omega⟩ ?_
 ·rw[List.mem_singleton.1 hd] at hm
  rcases List.mem_cons.1 hm with q|q
  ·omega
  ·have:=ltc _ q;omega
 clear W0 B0 re oe q0 q1 q2 oc ltc nc1 hc e1 n1
 rintro i vs hh _ ⟨ud,gd,u0,u1,u2,f0,f1,f2,rfl,hi,W,rd,od,dd,bz,ee,lc⟩
 obtain⟨wi,wn,-,-⟩:=zZ hw i (by omega)
 have wl:=Ww hw i (by omega)
 have bW:=W.bk
 have hcl:=bW.1
 have nh:=ee.1
 simp only[g0,g1]
 refine br (fun hlt=>?_) (fun hge=>?_)
 ·(repeat' first|refine vsx ?_|fail)
  refine aL (adn wi (by omega) W.r0 W.r1 W.r2) ?_
  rintro _ h2 ⟨e2,p0,p1,p2,y0,y1,y2,v,gv,rfl,t0,t1,t2,ot,rv,ov⟩
  have n2:=e2.1
  have tl:=(Vt wi (by omega)).2.2.1.length_eq
  rw[List.length_append] at tl
  have wl2:=wi.len
  have lt2:∀ d∈y0++(y1++y2),d < h2.n:=fun d hd=>by
   rcases List.mem_append.1 hd with q|q
   ·exact t0.lt d q
   rcases List.mem_append.1 q with q|q
   ·exact t1.lt d q
   ·exact t2.lt d q
  have nc2:c ∉ y0++(y1++y2):=fun q=>by have:=(ot.2 _ q).1;omega
  have ncv:c ∉ gv:=fun q=>by have:=(ov.2 _ q).1;omega
  have rd2:ah h2 ud (dA w i).2 gd:=iG e2 rd
  have od2:=(jk e2 ⟨od,rd.lt⟩).1
  have ncd:c ∉ gd:=fun q=>dd c q List.mem_cons_self
  have bz2:=fq e2 bz
  have bW2:=fq e2 bW
  (repeat' first|refine vsx ?_|fail)
  have hc2:c < h2.n:=by omega
  have lgd:=rd.lt
  have ny:∀ d∈y0++(y1++y2),hh.n≤d:=fun d hd=>(ot.2 d hd).1
  have nc0:c ∉ y0:=fun q=>nc2 (List.mem_append_left _ q)
  have nc1:c ∉ y1:=fun q=>nc2 (List.mem_append_right _ (List.mem_append_left _ q))
  have akN:c ∉ y2:=fun q=>nc2 (List.mem_append_right _ (List.mem_append_right _ q))
  have KK:∀ K:Blk,(∀ d∈gd,d≠c):=fun _ d hd q=>ncd (q▸hd)
  have WY:fQ (h.n+1+1) ((h2.upd c ⟨[.int .i64 (gL (dA w i).1).1.now,p0,p1,p2],0,0⟩).push ⟨[.int .i64 (gL (dA w i).1).1.now,p0,p1,p2],0,0⟩) c (dA w (i+1)).1 p0 p1 p2 y0 y1 y2:=
   ⟨iy (gG hc2),dU (dH t0 nc0),dU (dH t1 nc1),dU (dH t2 akN),(gy (dM ⟨ot,lt2⟩ nc2)).1.mono (by omega) fun _ _=>rfl,nc2⟩
  have rdY:ah ((h2.upd c ⟨[.int .i64 (gL (dA w i).1).1.now,p0,p1,p2],0,0⟩).push ⟨[.int .i64 (gL (dA w i).1).1.now,p0,p1,p2],0,0⟩) ud (dA w i).2 gd:=dU (dH rd2 ncd)
  have odY:=(gy (k:=⟨[.int .i64 (gL (dA w i).1).1.now,p0,p1,p2],0,0⟩) (dM (k:=⟨[.int .i64 (gL (dA w i).1).1.now,p0,p1,p2],0,0⟩) ⟨od2,rd2.lt⟩ ncd)).1
  have bzY:Bk ((h2.upd c ⟨[.int .i64 (gL (dA w i).1).1.now,p0,p1,p2],0,0⟩).push ⟨[.int .i64 (gL (dA w i).1).1.now,p0,p1,p2],0,0⟩) (h.n+1) zW 0:=iy (kr bz2 (by omega))
  have XY:Ext h ((h2.upd c ⟨[.int .i64 (gL (dA w i).1).1.now,p0,p1,p2],0,0⟩).push ⟨[.int .i64 (gL (dA w i).1).1.now,p0,p1,p2],0,0⟩):=((ee.trans e2).upd (by omega) _).push _
  refine IJ (n:=h.n+1+1) rdY (dU (dH rv ncv)) odY (by simp;omega) rfl (by omega) (by omega) ?_
  intro ud' h3 gd' k3 rd3 od3 m3
  have m3:∀ d∈gd',d∈gd∨h2.n < d:=fun d hd=>(m3 d hd).imp id fun q=>by simp at q;omega
  have n3:=k3.1
  have lWY:=WY.lt
  (repeat' first|refine vsx ?_|fail)
  refine⟨by omega,ud',gd',p0,p1,p2,y0,y1,y2,rfl,by omega,WY.kp k3 ncd fun d hd q=>?_,rd3,od3,fun d hd hm=>?_,bI k3 bzY fun q=>by have:=(od.2 _ q).1;omega,k3.ext XY fun d hd=>by have:=(od.2 d hd).1;omega,lc⟩
  ·have:=lgd d q;have:=ny d hd;omega
  ·rcases m3 d hd with q|q
   ·rcases List.mem_cons.1 hm with r|r
    ·exact ncd (r▸q)
    ·have:=lgd d q;have:=ny d r;omega
   ·rcases List.mem_cons.1 hm with r|r
    ·omega
    ·have:=lt2 d r;omega
 ·have ei:i=n:=by omega
  subst ei
  (repeat' first|refine vsw ?_|fail)
  obtain⟨q0,q1,q2,q3⟩:=W.out (z:=h.n+1) (k:=⟨[.int .i64 (dA w i).1.now,u0,u1,u2],0,0⟩) (by omega)
  have nz:h.n+1 ∉ gd:=fun q=>by have:=(od.2 _ q).1;omega
  exact⟨rfl,_,rfl,ee.upd (by omega) _,_,_,_,_,_,_,_,_,rfl,q0,q1,q2,q3.mono (by omega) fun _ _=>rfl,dH rd nz,(dM ⟨od,rd.lt⟩ nz).1.mono (by omega) fun _ _=>rfl⟩
end
end Go.Proofs.YtcgjihfngdhjjaaGreat
end
section
set_option linter.unusedSimpArgs false
set_option linter.unusedVariables false
set_option maxHeartbeats 1000000
namespace Go.Proofs.YtcgjihfngdhjjaaGreat
open Go Go.Ab
section
def TB (x0 x1:AV):Prog:=Cl jH [x0] fun a=>Cl jH [x1] fun b=>Bn .sub a b fun a=>Cl jH [a] fun a=>.fin [.val a]
theorem afO (x0 x1:AV):CC Tryz.prog yX [x0,x1] (TB x0 x1):=cc Tryz.func289
def TF (x0 x1:AV):Prog:=Cl jH [x0] fun a=>Cl jH [x1] fun b=>Bn .mul a b fun a=>Cl jH [a] fun a=>.fin [.val a]
theorem afQ (x0 x1:AV):CC Tryz.prog Ga [x0,x1] (TF x0 x1):=cc Tryz.func288
def Pj (x0:AV):Prog:=.op (.box x0) fun a=>Lg 3 a fun b=>Lg 2 a fun a=>Cl yX [b,a] fun a=>.fin [.val a]
theorem abC (x0:AV):CC Tryz.prog AY [x0] (Pj x0):=cc Tryz.func296
def Rx (x0 x1:AV):Prog:=.op (.box x0) fun a=>.op (.alloc [.int .i64 0,.int .i64 0,.int .i64 0,.int .i64 0]) fun b=>Ld 4 a fun c=>Cl vZ [c] fun c=>.op (.una .not c) fun c=>.gop c false (.mv x1) fun d=>Gf c false 3 a fun e=>.gop c false (.bin 0 .lss d e) fun d=>Pk c (.bool true) d fun c=>.gop c false (.mv x1) fun d=>.gop c false (.bin 0 .gtr d (.int .i64 2147483647)) fun d=>Pk c (.bool true) d fun c=>.ite c (Ld 4 a fun a=>.op (.st 4 b a) fun _=>.fin [.cn 4 b]) (.op (.fad 2 a) fun c=>.op (.ld1 c) fun d=>.op (.fad 0 a) fun e=>.op (.ld1 e) fun f=>Lg 3 a fun i=>Cl yX [x1,i] fun i=>.chk (.ld1 c) d (.chk (.ld1 e) f (Cl Ga [f,i] fun e=>.chk (.ld1 c) d (Cl yY [d,e] fun c=>Lg 1 a fun d=>Bn .gtr c d fun d=>.scope (.ite d (Lg 1 a fun a=>.leaf 0 [a]) (.leaf 0 [c])) (fun c=>Sg 2 a (g c 0) fun _=>Sg 3 a x1 fun _=>Ld 4 a fun a=>.op (.st 4 b a) fun _=>.fin [.cn 4 b]) fun a b=>aC a 1 (.leaf 1 b) .bad))))
theorem ad1 (x0 x1:AV):CC Tryz.prog Bg [x0,x1] (Rx x0 x1):=cc Tryz.func280 [1,2,4,5] (fun r=>if r=3 then[(0,[]),(1,[]),(2,[]),(3,[]),(4,[]),(5,[]),(6,[]),(7,[1,3]),(8,[1]),(9,[]),(10,[])] else[])
def SA (x0 x1:AV):Prog:=.op (.box x0) fun a=>.op (.alloc [.int .i64 0,.int .i64 0,.int .i64 0,.int .i64 0]) fun b=>Ld 4 a fun c=>Cl vZ [c] fun c=>.op (.una .not c) fun c=>.gop c false (.mv x1) fun d=>.gop c false (.bin 0 .lss d (.int .i64 0)) fun d=>Pk c (.bool true) d fun c=>.gop c false (.mv x1) fun d=>Gf c false 2 a fun e=>.gop c false (.bin 0 .gtr d e) fun d=>Pk c (.bool true) d fun c=>.ite c (Ld 4 a fun a=>.op (.st 4 b a) fun _=>.fin [.cn 4 b,.val (.bool false)]) (Lg 2 a fun c=>Bn .sub c x1 fun c=>Sg 2 a c fun _=>Ld 4 a fun a=>.op (.st 4 b a) fun _=>.fin [.cn 4 b,.val (.bool true)])
theorem aeS (x0 x1:AV):CC Tryz.prog Bl [x0,x1] (SA x0 x1):=cc Tryz.func282
end
theorem Ml {P:Program} {h:AH} {Q:Nat→List AV→AH→Prop} {k:AV→Prog} {a b:Int} (ha:0≤a∧a≤2147483647) (hb:0≤b∧b≤2147483647) (hk:(k (.int .i64 (a * b))).awp P h Q):(Prog.op (.bin 0 .mul (.int .i64 a) (.int .i64 b)) k).awp P h Q:=by
 have h1:0≤a * b:=Int.mul_nonneg ha.1 hb.1
 have h2:a * b≤2147483647 * 2147483647:=Int.mul_le_mul ha.2 hb.2 hb.1 (by decide)
 exact Cq (by rw[kJ (by omega) (by omega)];exact hk)
theorem Tx {h:AH} {a b:Int}:aP Tryz.prog yX [.int .i64 a,.int .i64 b] h (.int .i64 (nT a b)):=by
 refine reader (afO _ _) (by simp only[old]) ?_
 unfold TB
 have:=tT a;have:=tT b
 (repeat' first|refine vs ?_|((with_reducible refine aG jH ?_);refine aQ Bt ?_)|fail)
 exact pi rfl
theorem afw {h:AH} {a b:Int}:aP Tryz.prog Ga [.int .i64 a,.int .i64 b] h (.int .i64 (vP a b)):=by
 refine reader (afQ _ _) (by simp only[old]) ?_
 unfold TF
 (repeat' first|refine vs ?_|(refine Ml (tT _) (tT _) ?_)|((with_reducible refine aG jH ?_);refine aQ Bt ?_)|fail)
 exact pi rfl
theorem abe {h:AH} {s:Span} {v:AV}:aP Tryz.prog AY [.agg (s.cs v)] h (.int .i64 (lenOf s)):=by
 refine reader (abC _) (by simp only[old,Span.cs,olds,and_self]) ?_
 unfold Pj
 (repeat' first|refine vs ?_|((with_reducible refine aG yX ?_);refine aQ Tx ?_)|fail)
 exact pi rfl
theorem ahd {b:Bucket} {n:Int} (h1:iT b) (h2:b.at_≤n∧n≤2147483647):pE b n=⟨b.rate,b.aZ,min (cK b.tokens (vP b.rate (nT n b.at_))) b.aZ,n⟩:=if_pos (fK ⟨h1,h2⟩)
theorem ahe {b:Bucket} {n:Int} (h: ¬ (iT b∧b.at_≤n∧n≤2147483647)):pE b n=b:=if_neg (by rw[gM h];decide)
theorem adq {h:AH} {b:Bucket} {n:Int}:aP Tryz.prog Bg [.agg b.cs,.int .i64 n] h (.agg (pE b n).cs):=by
 refine reader (ad1 _ _) (by simp only[old,Bucket.cs,olds,and_self]) ?_
 unfold Rx
 (repeat' first|refine vs ?_|(refine br ?_ ?_<;>first|exact bx|intro _)|((with_reducible refine aG vZ ?_);(refine bC (JU (b:=b)) ?_ ?_<;>intro hn))|((with_reducible refine aG yX ?_);refine aQ Tx ?_)|((with_reducible refine aG Ga ?_);refine aQ afw ?_)|((with_reducible refine aG yY ?_);refine aQ Tz ?_)|fail)
 all_goals first
  |exact pv (by rw[ahe (by rintro⟨k1,k2⟩;first|contradiction|omega)];rfl)
  |exact pv (by rw[ahd hn ⟨by omega,by omega⟩,Int.min_def];first|rw[if_pos (by omega)];rfl|rw[if_neg (by omega)];rfl)
theorem VB {b:Bucket} {n:Int} (h1:iT b) (h2:0≤n∧n≤b.tokens):vB b n=true∧kM b n={b with tokens:=b.tokens - n}:=by
 have e:vB b n=true:=fK ⟨h1,h2⟩
 exact⟨e,if_pos e⟩
theorem GZ {b:Bucket} {n:Int} (h: ¬ (iT b∧0≤n∧n≤b.tokens)):vB b n=false∧kM b n=b:=by
 have e:vB b n=false:=gM h
 exact⟨e,if_neg (by rw[e];decide)⟩
theorem aev {h:AH} {b:Bucket} {n:Int}:aP Tryz.prog Bl [.agg b.cs,.int .i64 n] h (.tup [.agg (kM b n).cs,.bool (vB b n)]):=by
 refine reader (aeS _ _) (by simp only[old,Bucket.cs,olds,and_self]) ?_
 unfold SA
 by_cases hk:iT b
 ·have hk2:=hk;unfold iT at hk2
  (repeat' first|refine vs ?_|(refine br ?_ ?_<;>first|exact bx|intro _)|((with_reducible refine aG vZ ?_);(refine bC (JU (b:=b)) ?_ ?_<;>intro hn))|fail)
  all_goals first
   |exact absurd hk (by assumption)
   |exact pv (by rw[(GZ (b:=b) (n:=n) (by omega)).1,(GZ (b:=b) (n:=n) (by omega)).2];rfl)
   |exact pv (by rw[(VB (b:=b) (n:=n) hk ⟨by omega,by omega⟩).1,(VB (b:=b) (n:=n) hk ⟨by omega,by omega⟩).2];rfl)
 ·rw[(GZ (b:=b) (n:=n) (fun k=>hk k.1)).1,(GZ (b:=b) (n:=n) (fun k=>hk k.1)).2]
  (repeat' first|refine vs ?_|(refine br ?_ ?_<;>intro _<;>try(exfalso;contradiction))|((with_reducible refine aG vZ ?_);(refine bC (JU (b:=b)) ?_ ?_<;>intro hn))|fail)
  all_goals first
   |exact absurd (by assumption) hk
   |exact pv rfl
end Go.Proofs.YtcgjihfngdhjjaaGreat
end
section
set_option linter.unusedSimpArgs false
set_option linter.unusedVariables false
set_option maxHeartbeats 1000000
namespace Go.Proofs.YtcgjihfngdhjjaaGreat
open Go Go.Ab
section
def Rz (x0:AV):Prog:=.loop [.int .i64 0,.int .i64 0] (fun a=>Ln 0 x0 fun b=>Bn .lss (g a 1) b fun b=>.ite b (Ix 6 x0 (g a 1) fun b=>Lg 4 b fun b=>.scope (.ite b (Bn .add (g a 0) (.int .i64 1) fun a=>.leaf 0 [a]) (.leaf 0 [g a 0])) (fun b=>Bn .add (g a 1) (.int .i64 1) fun a=>.leaf 0 [g b 0,a]) fun a b=>aC a 1 (.leaf 1 b) .bad) (.leaf 2 [g a 0,g a 1])) fun a b=>aC a 1 (.leaf 1 b) (aC a 2 (.fin [.val (g b 0)]) .bad)
theorem ad3 (x0:AV):CC Tryz.prog Fz [x0] (Rz x0):=cc Tryz.func293 [0,3,4] (fun _=>[])
def Pm (x0 x1:AV):Prog:=.op (.alloc [.str ⟨#[]⟩,.bool false,.int .i64 0,.str ⟨#[]⟩]) fun a=>.loop [.int .i64 0] (fun b=>Ln 0 x0 fun c=>Bn .lss (g b 0) c fun c=>.ite c (Ix 4 x0 (g b 0) fun c=>Lg 0 c fun c=>.op (.bin 1 .eql c x1) fun c=>.ite c (Ix 4 x0 (g b 0) fun b=>Ld 4 b fun b=>.op (.st 4 a b) fun _=>.fin [.cn 4 a,.val (.bool true)]) (Bn .add (g b 0) (.int .i64 1) fun a=>.leaf 0 [a])) (.leaf 2 [g b 0])) fun b c=>aC b 1 (.leaf 1 c) (aC b 2 (.op (.build [.str ⟨#[]⟩,.bool false,.int .i64 0,.str ⟨#[]⟩] []) fun b=>.op (.st 4 a b) fun _=>.fin [.cn 4 a,.val (.bool false)]) .bad)
theorem abD (x0 x1:AV):CC Tryz.prog AZ [x0,x1] (Pm x0 x1):=cc Tryz.func297 [0,1,4,6] (fun _=>[])
def Qt (x0:AV):Prog:=.loop [.int .i64 0,.int .i64 0] (fun a=>Ln 0 x0 fun b=>Bn .lss (g a 1) b fun b=>.ite b (Ix 6 x0 (g a 1) fun b=>Ld 6 b fun b=>Cl AY [b] fun b=>Bn .gtr b (g a 0) fun b=>.scope (.ite b (Ix 6 x0 (g a 1) fun a=>Ld 6 a fun a=>Cl AY [a] fun a=>.leaf 0 [a]) (.leaf 0 [g a 0])) (fun b=>Bn .add (g a 1) (.int .i64 1) fun a=>.leaf 0 [g b 0,a]) fun a b=>aC a 1 (.leaf 1 b) .bad) (.leaf 2 [g a 0,g a 1])) fun a b=>aC a 1 (.leaf 1 b) (aC a 2 (.fin [.val (g b 0)]) .bad)
theorem acS (x0:AV):CC Tryz.prog ER [x0] (Qt x0):=cc Tryz.func294 [0,3,4] (fun _=>[])
def Rf (x0 x1:AV):Prog:=.op (.box x0) fun a=>.loop [.int .i64 0] (fun b=>Ln 0 x1 fun c=>Bn .lss (g b 0) c fun c=>.ite c (Ix 6 x1 (g b 0) fun c=>Lg 5 c fun c=>Lg 2 a fun d=>.op (.alloc [.str ⟨#[]⟩,.bool false,.int .i64 0,.str ⟨#[]⟩]) fun e=>Cl AZ [c,d] fun c=>.chk (.alloc [.str ⟨#[]⟩,.bool false,.int .i64 0,.str ⟨#[]⟩]) e (.op (.ext c 0) fun d=>.op (.ext c 1) fun c=>.op (.st 4 e d) fun _=>Gf c true 0 a fun d=>.gop c true (.bin 0 .eql d (.int .i64 4)) fun d=>Pk c d (.bool false) fun d=>Gf d true 1 e fun f=>.gop d true (.una .not f) fun f=>Pk d f (.bool false) fun d=>Gf d true 3 e fun f=>Gf d true 3 a fun i=>.gop d true (.bin 1 .eql f i) fun f=>Pk d f (.bool false) fun d=>.gop d false (.mv c) fun c=>.gop d false (.mv c) fun c=>Gf c true 0 a fun f=>.gop c true (.bin 0 .eql f (.int .i64 5)) fun f=>.gop d false (.pick c f (.bool false)) fun c=>.gop d false (.mv c) fun c=>Gf c true 1 e fun f=>.gop d false (.pick c f (.bool false)) fun c=>.gop d false (.mv c) fun c=>Gf c true 2 e fun e=>Gf c true 1 a fun a=>.gop c true (.bin 0 .geq e a) fun a=>.gop d false (.pick c a (.bool false)) fun a=>Pk d (.bool true) a fun a=>.ite a (.fin [.val (.bool true)]) (Bn .add (g b 0) (.int .i64 1) fun a=>.leaf 0 [a]))) (.leaf 2 [g b 0])) fun a b=>aC a 1 (.leaf 1 b) (aC a 2 (.fin [.val (.bool false)]) .bad)
theorem adI (x0 x1:AV):CC Tryz.prog Fq [x0,x1] (Rf x0 x1):=cc Tryz.func295 [1,2,5] (fun r=>if r=4 then[(0,[]),(1,[]),(2,[]),(3,[]),(4,[]),(5,[]),(6,[]),(11,[]),(7,[11]),(8,[]),(9,[]),(10,[]),(12,[]),(13,[])] else[])
end
theorem agz {l:List Span} {i:Nat} {x:Span} (ht:l.take (i+1)=l.take i++[x]):errs (l.take (i+1))=errs (l.take i)+if x.err=true then 1 else 0:=by
 rw[ht];unfold errs;rw[List.filter_append,List.length_append]
 cases hx:x.err<;>simp[hx]
theorem aiE (l:List Span) (i:Nat):errs (l.take i)≤i:=by
 have h1:=List.length_filter_le (fun x:Span=>x.err) (l.take i)
 have h2:(l.take i).length≤i:=by rw[List.length_take];omega
 unfold errs;omega
theorem ads {h:AH} {l:List Span} {v:AV} {F:List Nat} (r:ah h v l F):aP Tryz.prog Fz [v] h (.int .i64 (errs l:Int)):=by
 refine reader (ad3 _) (by simp only[old]) ?_
 unfold Rz
 have hsm:=r.small
 refine aX l.length (fun i vs h1=>vs=[.int .i64 (errs (l.take i):Int),.int .i64 (i:Int)]∧i≤l.length∧Ext h h1) ⟨rfl,Nat.zero_le _,aI⟩ ?_
 rintro i vs h1 _ ⟨rfl,hi,e1⟩
 simp only[g0,g1]
 refine vs ?_
 refine br (fun hlt=>?_) (fun hge=>?_)
 ·obtain⟨x,hx,-,ht⟩:=aU (show i < l.length by omega)
  have h2:=agz ht
  have h3:=aiE l i
  (repeat' first|refine vs ?_|(refine br ?_ ?_<;>first|exact bx|intro _)|((with_reducible refine bB ?_);((refine ix ?_);rintro _ _ _ _ _ ⟨_,rfl,_⟩ _))|fail)
  all_goals(rename_i hq;rw[hq] at h2;simp only[if_true,if_false,Bool.false_eq_true] at h2;exact⟨by omega,by rw[h2];rfl,by omega,aI⟩)
 ·(repeat' first|refine vs ?_|fail)
  refine pi ?_
  rw[show i=l.length by omega,List.take_length]
def isKey (key:ByteArray) (a:Attr):Bool:=decide (a.key=key)
def noA:Attr:=⟨⟨#[]⟩,false,0,⟨#[]⟩⟩
def faV (l:List Attr) (key:ByteArray):Attr:=(xM l key).getD noA
theorem aht {l:List Attr} {key:ByteArray}:xM l key=l.find? (isKey key):=rfl
theorem OZ {h:AH} {l:List Attr} {v:AV} {F:List Nat} {key:ByteArray} (r:ah h v l F):aP Tryz.prog AZ [v,.str key] h (.tup [.agg (faV l key).cs,.bool (xM l key).isSome]):=by
 refine reader (abD _ _) (by simp only[old,olds,Attr.cs,and_self]) ?_
 unfold Pm
 have hsm:=r.small
 refine iH (aX l.length (fun i vs h1=>vs=[.int .i64 (i:Int)]∧i≤l.length∧h1=h.push ⟨[.str ⟨#[]⟩,.bool false,.int .i64 0,.str ⟨#[]⟩],0,0⟩∧xM l key=(l.drop i).find? (isKey key)) ⟨rfl,by omega,rfl,by simp[aht]⟩ ?_)
 rintro i vs h1 _ ⟨rfl,hi,rfl,hf⟩
 simp only[g0]
 refine vs ?_
 refine br (fun hlt=>?_) (fun hge=>?_)
 ·obtain⟨x,hx,hd,_⟩:=aU (show i < l.length by omega)
  rw[hd,List.find?_cons] at hf
  (repeat' first|refine vs ?_|(refine br ?_ ?_<;>first|exact bx|intro _)|((with_reducible refine bB ?_);((refine ix ?_);rintro _ _ _ _ _ ⟨rfl,rfl⟩ _))|fail)
  ·have hk:x.key=key:=by assumption
   rw[show isKey key x=true from decide_eq_true hk] at hf
   unfold faV;rw[hf]
   exact pv rfl
  ·have hk: ¬ x.key=key:=by assumption
   rw[show isKey key x=false from decide_eq_false hk] at hf
   exact⟨by omega,rfl,by omega,rfl,hf⟩
 ·have e:i=l.length:=by omega
  subst e
  simp only[List.drop_length,List.find?_nil] at hf
  (repeat' first|refine vs ?_|fail)
  unfold faV;rw[hf]
  exact pv rfl
def lK (m:Int) (s:Span):Int:=if m < lenOf s then lenOf s else m
def lng (l:List Span):Int:=l.foldl lK 0
theorem aip (s:Span):0≤lenOf s∧lenOf s≤2147483647:=tT _
theorem Vd:∀ (l:List Span) (m:Int),m≤l.foldl lK m∧(∀ s∈l,lenOf s≤l.foldl lK m)∧(l.foldl lK m=m∨∃ s∈l,l.foldl lK m=lenOf s)
 |[],m=>⟨Int.le_refl _,by simp,.inl rfl⟩
 |s::l,m=>by
  obtain⟨a,b,c⟩:=Vd l (lK m s)
  rw[List.foldl_cons]
  have h1:m≤lK m s∧lenOf s≤lK m s∧(lK m s=m∨lK m s=lenOf s):=by unfold lK;split<;>omega
  refine⟨by omega,fun t ht=>?_,?_⟩
  ·rcases List.mem_cons.1 ht with rfl|ht
   ·omega
   ·exact b t ht
  ·rcases c with c|⟨t,ht,c⟩
   ·rcases h1.2.2 with q|q
    ·exact .inl (by omega)
    ·exact .inr ⟨s,by simp,by omega⟩
   ·exact .inr ⟨t,by simp[ht],c⟩
theorem WZ {l:List Span} {n:Int}:(0 < l.length∧n≤lng l)↔∃ s∈l,n≤lenOf s:=by
 obtain⟨a,b,c⟩:=Vd l 0
 constructor
 ·rintro⟨h1,h2⟩
  rcases c with c|⟨t,ht,c⟩
  ·match l,h1 with
   |s::l,_=>exact⟨s,by simp,by have:=aip s;unfold lng at h2;omega⟩
  ·exact⟨t,ht,by unfold lng at h2;omega⟩
 ·rintro⟨s,hs,hn⟩
  exact⟨List.length_pos_of_mem hs,by have:=b s hs;unfold lng;omega⟩
theorem ahk {l:List Span} {i:Nat} {x:Span} (ht:l.take (i+1)=l.take i++[x]):lng (l.take (i+1))=lK (lng (l.take i)) x:=by
 rw[ht];unfold lng;rw[List.foldl_append];rfl
theorem acd {h:AH} {l:List Span} {v:AV} {F:List Nat} (r:ah h v l F):aP Tryz.prog ER [v] h (.int .i64 (lng l)):=by
 refine reader (acS _) (by simp only[old]) ?_
 unfold Qt
 have hsm:=r.small
 refine aX l.length (fun i vs h1=>vs=[.int .i64 (lng (l.take i)),.int .i64 (i:Int)]∧i≤l.length∧Ext h h1) ⟨rfl,Nat.zero_le _,aI⟩ ?_
 rintro i vs h1 _ ⟨rfl,hi,e1⟩
 simp only[g0,g1]
 refine vs ?_
 refine br (fun hlt=>?_) (fun hge=>?_)
 ·obtain⟨x,hx,-,ht⟩:=aU (show i < l.length by omega)
  have h2:=ahk ht
  (repeat' first|refine vs ?_|(refine br ?_ ?_<;>first|exact bx|intro _)|((with_reducible refine aG AY ?_);refine aQ abe ?_)|((with_reducible refine bB ?_);((refine ix ?_);rintro _ _ _ _ _ ⟨_,rfl,_⟩ _))|fail)
  ·have hq:lng (l.take i) < lenOf x:=by assumption
   exact⟨by omega,by rw[h2];unfold lK;rw[if_pos hq];rfl,by omega,aI⟩
  ·have hq: ¬ lng (l.take i) < lenOf x:=by assumption
   exact⟨by omega,by rw[h2];unfold lK;rw[if_neg hq];rfl,by omega,aI⟩
 ·(repeat' first|refine vs ?_|fail)
  refine pi ?_
  rw[show i=l.length by omega,List.take_length]
def l6P (p:Pol) (s:Span):Prop:=(p.kind=4∧LA p.key p.text s)∨(p.kind=5∧Ma p.key p.n s)
theorem adg {h : AH} {p : Pol} {vp : AV} {l : List Span} {v : AV} {F : List Nat} (r : ah h v l F) : aP Tryz.prog Fq [.agg (p.cs vp), v] h (.bool (bp (∃ s ∈ l, l6P p s))) := by
  refine reader (adI _ _) (by simp only [old]) ?_
  unfold Rf
  have hsm := r.small
  refine vs ?_
  refine aX l.length (fun i vs h1 => vs = [.int .i64 (i : Int)] ∧ i ≤ l.length ∧ Ext (h.push ⟨p.cs vp, 0, 0⟩) h1 ∧ eZ l (fun _ s => ¬ l6P p s) i) ⟨rfl, Nat.zero_le _, Ext.refl _, up0⟩ ?_
  rintro i vs h1 _ ⟨rfl, hi, e1, hu⟩
  have B1 : Bk h1 h.n [.int .i64 p.kind, .int .i64 p.n, .str p.key, .str p.text, vp] 0 := fq e1 gF
  simp only [g0]
  refine vs ?_
  refine br (fun hlt => ?_) (fun hge => ?_)
  · obtain ⟨x, hx, -, ht⟩ := aU (show i < l.length by omega)
    refine vs ?_
    refine dw r hx rfl ?_
    rintro bb o cs Fi aa ⟨w, rfl, rw_⟩ _
    have hm := List.mem_of_getElem? hx
    rcases hq : xM x.attrs p.key with _ | a
    · have hno : ¬ l6P p x := by
        rintro (⟨-, a, e, -⟩ | ⟨-, a, e, -⟩) <;> (rw [hq] at e; cases e)
      (repeat' first|refine vs ?_|((with_reducible refine iN ?_);refine iM aO ?_)|((with_reducible refine aG AZ ?_);(refine aQ (OZ (l := x.attrs) (key := p.key) aB) ?_; unfold faV; rw [hq]; simp only [Option.isSome, Option.getD]))|fail)
      exact ⟨by omega, rfl, by omega, aI, upS hu hx hno⟩
    · obtain ⟨ak, an, ai, at_⟩ := a
      cases an
      all_goals (repeat' first|refine vs ?_|((with_reducible refine iN ?_);refine iM aO ?_)|(refine br ?_ ?_<;>first|exact bo|intro _)|((with_reducible refine aG AZ ?_);(refine aQ (OZ (l := x.attrs) (key := p.key) aB) ?_; unfold faV; rw [hq]; simp only [Option.isSome, Option.getD]))|fail)
      all_goals first
        | exact pt ⟨x, hm, .inl ⟨by assumption, _, hq, by rfl, by omega⟩⟩
        | exact pt ⟨x, hm, .inr ⟨by assumption, _, hq, by rfl, by omega⟩⟩
        | (refine ⟨by omega, rfl, by omega, aI, upS hu hx ?_⟩
           rintro (⟨k1, a', e, k2, k3⟩ | ⟨k1, a', e, k2, k3⟩) <;> (rw [hq] at e; cases e; contradiction))
  · (repeat' first|refine vs ?_|fail)
    refine pf ?_
    rintro ⟨s, hs, q⟩
    rw [show i = l.length by omega] at hu
    exact jV hu s hs q
end Go.Proofs.YtcgjihfngdhjjaaGreat
end
