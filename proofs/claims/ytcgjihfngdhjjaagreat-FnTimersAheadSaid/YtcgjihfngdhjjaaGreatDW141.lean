import Derived.Test.YtcgjihfngdhjjaaGreatDW140
import Derived.Test.YtcgjihfngdhjjaaGreatDW46
import Derived.Test.YtcgjihfngdhjjaaGreatDW133
import Derived.Test.YtcgjihfngdhjjaaGreatDW131
set_option linter.unusedSimpArgs false
set_option linter.unusedVariables false
set_option maxHeartbeats 4000000
set_option maxRecDepth 20000
namespace Go.Proofs.YtcgjihfngdhjjaaGreat
open Go Go.Ab Go.RowKit
attribute[local irreducible] dD
section
def Rn (x0 x1:AV):Prog:=.op (.alloc jh) fun a=>.op (.alloc jh) fun b=>.op (.aS 8 0 [] []) fun c=>Cl Kn [x0] fun d=>Cl J2 [d] fun d=>.op (.alloc jh) fun e=>.op (.st 32 e d) fun _=>Ld 32 e fun d=>Cl EM [d] fun d=>.op (.alloc jh) fun f=>.op (.st 32 f d) fun _=>Cl fP [x0,x1] fun d=>Bn .add (.int .i64 10) d fun d=>.loop [c,d] (fun a=>Bn .gtr (g a 1) (.int .i64 0) fun b=>.gop b true (.mv (g a 0)) fun c=>.gop b true (.len 0 c) fun c=>.gop b true (.bin 0 .lss c (.int .i64 150)) fun c=>Pk b c (.bool false) fun b=>.ite b (Ld 32 f fun b=>Cl Ke [x0,b] fun b=>.op (.alloc u7) fun c=>.op (.st 8 c b) fun _=>Ld 8 c fun b=>.op (.aS 8 1 u7 [(0,8,b)]) fun b=>.op (.app 8 80 (g a 0) b) fun b=>Ld 32 f fun d=>Cl EM [d] fun d=>.op (.alloc jh) fun e=>.op (.st 32 e d) fun _=>Ld 8 c fun c=>Cl KJ [e,c] fun c=>.scope (.ite c (Ld 32 e fun a=>.op (.st 32 f a) fun _=>.leaf 0 []) (.leaf 0 [])) (fun _=>Bn .sub (g a 1) (.int .i64 1) fun a=>.leaf 0 [b,a]) fun a b=>aC a 1 (.leaf 1 b) .bad) (.leaf 2 [g a 0,g a 1])) fun c d=>aC c 1 (.leaf 1 d) (aC c 2 (Ld 32 e fun c=>Ld 32 f fun e=>.op (.st 32 a c) fun _=>.chk (.ldn 32 f) e (.chk (.ldn 32 f) e (.op (.st 32 b e) fun _=>.fin [.cn 32 a,.val (g d 0),.cn 32 b]))) .bad)
theorem adP (x0 x1:AV):CC Tryz.prog KC [x0,x1] (Rn x0 x1):=cc Tryz.func98 [0,4,6,7,8,9,10] (fun r=>if r=12 then[(0,[]),(1,[]),(2,[]),(3,[2]),(4,[2]),(5,[])] else[])
def O4 (x0 x1:AV):Prog:=.op (.alloc jh) fun a=>Cl KC [x0,x1] fun b=>.op (.ext b 0) fun c=>.op (.ext b 1) fun _=>.op (.ext b 2) fun b=>.op (.alloc jh) fun d=>.op (.alloc jh) fun e=>.op (.st 32 d c) fun _=>.op (.st 32 e b) fun _=>Ld 32 e fun b=>.op (.st 32 a b) fun _=>.fin [.cn 32 a]
theorem abr (x0 x1:AV):CC Tryz.prog JX [x0,x1] (O4 x0 x1):=cc Tryz.func43
end
structure yh where
 cs:List AV
 h:cs.length=8
instance:Cel yh where
 w:=8
 ok:=fun _=>True
 rep:=fun _ x cs F=>cs=x.cs∧F=[]
 pos:=by decide
 len:=by rintro h x cs F ⟨rfl,rfl⟩;exact x.h
 lt:=by rintro h x cs F ⟨rfl,rfl⟩;simp
 keep:=by rintro h h' x cs F r _;exact r
theorem RI.aj1 {n M:Nat} {x:Wld} (h:RI n M x):RI (n+1) M x:=⟨h.wi,h.ti,h.nb,by have:=h.tm;omega,by have:=h.nx;omega,by have:=h.od;omega,by have:=h.dd;omega,by have:=h.du;omega,h.ds,h.ts⟩
theorem RI.upto {n m M:Nat} {x:Wld} (h:RI n M x) (hm:n≤m):RI m M x:=⟨h.wi,h.ti,h.nb,by have:=h.tm;omega,by have:=h.nx;omega,by have:=h.od;omega,by have:=h.dd;omega,by have:=h.du;omega,h.ds,h.ts⟩
def DrW (h:AH) (c:Nat):AV→AH→Prop:=fun u h'=>∃ y cs F,u= .agg cs∧Cel.rep h' y cs F∧Own h.n h' F∧Kp h h' [c]∧Cur h' c∧RI 151 1300 y
theorem ajD {P:Program} {h:AH} {Q:Nat→List AV→AH→Prop} {k:AV→Prog} {b:Nat} {y:Wld} {V:WV} (a:Bk h b (y.cv V) 0) (hk:(k (.agg (y.cv V))).awp P h Q):(Prog.op (.ldn 32 (.ptr b 0)) k).awp P h Q:=zV a rfl (by decide) hk
theorem xC {P:Program} {h:AH} {Q:Nat→List AV→AH→Prop} {k:AV→Prog} {b:Nat} {zs cs:List AV} (a:Bk h b zs 0) (hz:zs.length=32) (hl:cs.length=32) (hk:(k (.tup [])).awp P (h.upd b ⟨cs,0,0⟩) Q):(Prog.op (.st 32 (.ptr b 0) (.agg cs)) k).awp P h Q:=kE (xs:=cs) rfl hl (qO a (ahR (by omega))) hk
theorem HY {h:AH} {b:Nat} {cs:List AV} (a:Bk h b cs 0) (l:cs.length=32):(RV.cn 32 (.ptr b 0)).get h=some (.agg cs):=Yj (cs:=cs) ⟨by rw[a.2];exact List.take_of_length_le (by simp[l]),by decide,l,by simp[live,a.2]⟩
theorem adi {h:AH} {c:Nat} {m:Int} (cu:Cur h c) (h0:0 < m) (h1:m < 1000000):bq Tryz.prog KC [.ptr c 0,.int .i64 m] h (fun u h'=>∃ ca l y cs F,u= .tup [.agg ca,l,.agg cs]∧ca.length=32∧Cel.rep h' y cs F∧Own h.n h' F∧Kp h h' [c]∧Cur h' c∧RI 151 1300 y):=by
 have lc:=cu.lt
 refine adP _ _ ?_
 unfold Rn
 (repeat' first|refine vs0 ?_|fail)
 refine aL (ab7 aT) ?_
 rintro _ h1 ⟨x,w,G,rfl,rw1,ow,k1,cu1,hx⟩
 have n1:=k1.1;(try simp only[aJ,aN] at n1)
 have hxs:=Wi hx
 refine aL (abb (c:=x) hxs.1.2.2.2.2.2.2.2 (by omega) rw1) ?_
 rintro _ h2 ⟨e2,cs0,W0,rfl,p0,o0⟩
 have n2:=e2.1
 have l0:cs0.length=32:=Cel.len p0
 refine iH ?_
 refine zU l0 rfl ?_
 refine zV gF l0 (by decide) ?_
 have hR0:=RI.new (M:=1300) hx
 have hfit:=hR0.fit (by decide) (by decide)
 refine aL (PO (sG x) (by omega) _ _ _ (jJ p0 aI)) ?_
 rintro _ h3 ⟨e3,cs1,W1,rfl,p1,o1⟩
 have n3:=e3.1;(try simp only[aJ,aN] at n3)
 have l1:cs1.length=32:=Cel.len p1
 refine iH ?_
 refine zU l1 rfl ?_
 refine aL (lZ aT (by omega) (by omega)) ?_
 rintro _ h4 ⟨q,rfl,hq0,hq1,k4,cu4⟩
 have n4:=k4.1;(try simp only[aJ,aN] at n4)
 have fW:∀ d∈W1,h2.n+1≤d:=fun d hd=>by have:=(o1.2 d hd).1;simpa using this
 have cW:∀ d∈W1,d ∉ [c]:=fun d hd hm=>by have:=fW d hd;rw[List.mem_singleton.1 hm] at this;omega
 have rp4:Cel.rep h4 (sG x) cs1 W1:=sZ k4 (jJ p1 ((Ext.refl h3).push _)) cW
 have op4:Own (h.n+3) h4 W1:=((bX k4 (gy ⟨o1,Cel.lt p1⟩) cW).1).mono (by simp;omega) fun _ _=>rfl
 have nb4:h3.n ∉ W1:=fun q=>by have:=Cel.lt p1 _ q;omega
 have re:ah (((h.push ⟨[AV.int .i64 0,AV.int .i64 0,AV.int .i64 0,AV.int .i64 0,AV.int .i64 0,AV.int .i64 0,AV.int .i64 0,AV.int .i64 0,AV.int .i64 0,AV.str ⟨#[]⟩,AV.str ⟨#[]⟩,AV.aA,AV.int .i64 0,AV.bool false,AV.aA,AV.int .i64 0,AV.int .i64 0,AV.int .i64 0,AV.int .i64 0,AV.int .i64 0,AV.aA,AV.int .i64 0,AV.int .i64 0,AV.aA,AV.aA,AV.aA,AV.aA,AV.aA,AV.aA,AV.aA,AV.aA,AV.int .i64 0],0,0⟩).push ⟨[AV.int .i64 0,AV.int .i64 0,AV.int .i64 0,AV.int .i64 0,AV.int .i64 0,AV.int .i64 0,AV.int .i64 0,AV.int .i64 0,AV.int .i64 0,AV.str ⟨#[]⟩,AV.str ⟨#[]⟩,AV.aA,AV.int .i64 0,AV.bool false,AV.aA,AV.int .i64 0,AV.int .i64 0,AV.int .i64 0,AV.int .i64 0,AV.int .i64 0,AV.aA,AV.int .i64 0,AV.int .i64 0,AV.aA,AV.aA,AV.aA,AV.aA,AV.aA,AV.aA,AV.aA,AV.aA,AV.int .i64 0],0,0⟩).push ⟨[],8,0⟩) (.sl (h.n+2) 0 0) ([]:List yh) [h.n+2]:=(gu (w:=8) rfl).1
 have oe:Own (h.n+2) (((h.push ⟨[AV.int .i64 0,AV.int .i64 0,AV.int .i64 0,AV.int .i64 0,AV.int .i64 0,AV.int .i64 0,AV.int .i64 0,AV.int .i64 0,AV.int .i64 0,AV.str ⟨#[]⟩,AV.str ⟨#[]⟩,AV.aA,AV.int .i64 0,AV.bool false,AV.aA,AV.int .i64 0,AV.int .i64 0,AV.int .i64 0,AV.int .i64 0,AV.int .i64 0,AV.aA,AV.int .i64 0,AV.int .i64 0,AV.aA,AV.aA,AV.aA,AV.aA,AV.aA,AV.aA,AV.aA,AV.aA,AV.int .i64 0],0,0⟩).push ⟨[AV.int .i64 0,AV.int .i64 0,AV.int .i64 0,AV.int .i64 0,AV.int .i64 0,AV.int .i64 0,AV.int .i64 0,AV.int .i64 0,AV.int .i64 0,AV.str ⟨#[]⟩,AV.str ⟨#[]⟩,AV.aA,AV.int .i64 0,AV.bool false,AV.aA,AV.int .i64 0,AV.int .i64 0,AV.int .i64 0,AV.int .i64 0,AV.int .i64 0,AV.aA,AV.int .i64 0,AV.int .i64 0,AV.aA,AV.aA,AV.aA,AV.aA,AV.aA,AV.aA,AV.aA,AV.aA,AV.int .i64 0],0,0⟩).push ⟨[],8,0⟩) [h.n+2]:=(gu (h:=(h.push ⟨[AV.int .i64 0,AV.int .i64 0,AV.int .i64 0,AV.int .i64 0,AV.int .i64 0,AV.int .i64 0,AV.int .i64 0,AV.int .i64 0,AV.int .i64 0,AV.str ⟨#[]⟩,AV.str ⟨#[]⟩,AV.aA,AV.int .i64 0,AV.bool false,AV.aA,AV.int .i64 0,AV.int .i64 0,AV.int .i64 0,AV.int .i64 0,AV.int .i64 0,AV.aA,AV.int .i64 0,AV.int .i64 0,AV.aA,AV.aA,AV.aA,AV.aA,AV.aA,AV.aA,AV.aA,AV.aA,AV.int .i64 0],0,0⟩).push ⟨[AV.int .i64 0,AV.int .i64 0,AV.int .i64 0,AV.int .i64 0,AV.int .i64 0,AV.int .i64 0,AV.int .i64 0,AV.int .i64 0,AV.int .i64 0,AV.str ⟨#[]⟩,AV.str ⟨#[]⟩,AV.aA,AV.int .i64 0,AV.bool false,AV.aA,AV.int .i64 0,AV.int .i64 0,AV.int .i64 0,AV.int .i64 0,AV.int .i64 0,AV.aA,AV.int .i64 0,AV.int .i64 0,AV.aA,AV.aA,AV.aA,AV.aA,AV.aA,AV.aA,AV.aA,AV.aA,AV.int .i64 0],0,0⟩) (α:=yh) (w:=8) rfl).2 _ (by simp)
 have ce:∀ d∈[h.n+2],d ∉ [c]:=gJ (iL (by omega))
 have re4:ah h4 (.sl (h.n+2) 0 0) ([]:List yh) [h.n+2]:=aK k4 (dU (iG e3 (dU (iG e2 (aK k1 re ce))))) ce
 have oe4:Own (h.n+2) h4 [h.n+2]:=(bX k4 (gy (jk e3 (gy (jk e2 (bX k1 ⟨oe,re.lt⟩ ce))))) ce).1
 have b64:Bk h4 h2.n cs0 0:=aO
 have bW4:Bk h4 h3.n cs1 0:=aO
 have z14:Bk h4 h.n [AV.int .i64 0,AV.int .i64 0,AV.int .i64 0,AV.int .i64 0,AV.int .i64 0,AV.int .i64 0,AV.int .i64 0,AV.int .i64 0,AV.int .i64 0,AV.str ⟨#[]⟩,AV.str ⟨#[]⟩,AV.aA,AV.int .i64 0,AV.bool false,AV.aA,AV.int .i64 0,AV.int .i64 0,AV.int .i64 0,AV.int .i64 0,AV.int .i64 0,AV.aA,AV.int .i64 0,AV.int .i64 0,AV.aA,AV.aA,AV.aA,AV.aA,AV.aA,AV.aA,AV.aA,AV.aA,AV.int .i64 0] 0:=aO
 have z24:Bk h4 (h.n+1) [AV.int .i64 0,AV.int .i64 0,AV.int .i64 0,AV.int .i64 0,AV.int .i64 0,AV.int .i64 0,AV.int .i64 0,AV.int .i64 0,AV.int .i64 0,AV.str ⟨#[]⟩,AV.str ⟨#[]⟩,AV.aA,AV.int .i64 0,AV.bool false,AV.aA,AV.int .i64 0,AV.int .i64 0,AV.int .i64 0,AV.int .i64 0,AV.int .i64 0,AV.aA,AV.int .i64 0,AV.int .i64 0,AV.aA,AV.aA,AV.aA,AV.aA,AV.aA,AV.aA,AV.aA,AV.aA,AV.int .i64 0] 0:=aO
 have kk4:Kp h h4 [c]:=bQ
 have l23:h.n+3≤h2.n:=by omega
 have l33:h2.n+1≤h3.n:=by omega
 obtain⟨b,hb⟩:∃ b,b=h3.n:=⟨_,rfl⟩
 obtain⟨b6,hb6⟩:∃ b,b=h2.n:=⟨_,rfl⟩
 rw[←hb] at bW4 nb4 l33 ⊢
 rw[←hb6] at b64 l23 l33 ⊢
 have l43:b+1≤h4.n:=by omega
 clear k4 p1 e3 e2 p0 o0 k1 rw1 ow re oe o1 hb hb6 n4 n3 n2 n1
 refine sQ (by omega) (by omega) ?_
 obtain⟨q',rfl⟩:∃ j:Nat,q=j:=⟨q.toNat,by omega⟩
 rw[show(10:Int)+(q':Int)=((10+q':Nat):Int) by omega]
 rw[show((h.push ⟨[AV.int .i64 0,AV.int .i64 0,AV.int .i64 0,AV.int .i64 0,AV.int .i64 0,AV.int .i64 0,AV.int .i64 0,AV.int .i64 0,AV.int .i64 0,AV.str ⟨#[]⟩,AV.str ⟨#[]⟩,AV.aA,AV.int .i64 0,AV.bool false,AV.aA,AV.int .i64 0,AV.int .i64 0,AV.int .i64 0,AV.int .i64 0,AV.int .i64 0,AV.aA,AV.int .i64 0,AV.int .i64 0,AV.aA,AV.aA,AV.aA,AV.aA,AV.aA,AV.aA,AV.aA,AV.aA,AV.int .i64 0],0,0⟩).push ⟨[AV.int .i64 0,AV.int .i64 0,AV.int .i64 0,AV.int .i64 0,AV.int .i64 0,AV.int .i64 0,AV.int .i64 0,AV.int .i64 0,AV.int .i64 0,AV.str ⟨#[]⟩,AV.str ⟨#[]⟩,AV.aA,AV.int .i64 0,AV.bool false,AV.aA,AV.int .i64 0,AV.int .i64 0,AV.int .i64 0,AV.int .i64 0,AV.int .i64 0,AV.aA,AV.int .i64 0,AV.int .i64 0,AV.aA,AV.aA,AV.aA,AV.aA,AV.aA,AV.aA,AV.aA,AV.aA,AV.int .i64 0],0,0⟩).n=h.n+2 from rfl,show(h.push ⟨[AV.int .i64 0,AV.int .i64 0,AV.int .i64 0,AV.int .i64 0,AV.int .i64 0,AV.int .i64 0,AV.int .i64 0,AV.int .i64 0,AV.int .i64 0,AV.str ⟨#[]⟩,AV.str ⟨#[]⟩,AV.aA,AV.int .i64 0,AV.bool false,AV.aA,AV.int .i64 0,AV.int .i64 0,AV.int .i64 0,AV.int .i64 0,AV.int .i64 0,AV.aA,AV.int .i64 0,AV.int .i64 0,AV.aA,AV.aA,AV.aA,AV.aA,AV.aA,AV.aA,AV.aA,AV.aA,AV.int .i64 0],0,0⟩).n=h.n+1 from rfl]
 refine mo (fun k vs hh=>∃ (l:AV) (L:List yh) (e:List Nat) (y:Wld) (cs:List AV) (F:List Nat),vs=[l,.int .i64 (k:Int)]∧k≤2000000∧ah hh l L e∧Own (h.n+2) hh e∧L.length≤150∧Bk hh b cs 0∧Cel.rep hh y cs F∧Own (h.n+3) hh F∧b ∉ F∧RI L.length 1300 y∧Kp h hh [c]∧Cur hh c∧Bk hh b6 cs0 0∧Bk hh h.n [AV.int .i64 0,AV.int .i64 0,AV.int .i64 0,AV.int .i64 0,AV.int .i64 0,AV.int .i64 0,AV.int .i64 0,AV.int .i64 0,AV.int .i64 0,AV.str ⟨#[]⟩,AV.str ⟨#[]⟩,AV.aA,AV.int .i64 0,AV.bool false,AV.aA,AV.int .i64 0,AV.int .i64 0,AV.int .i64 0,AV.int .i64 0,AV.int .i64 0,AV.aA,AV.int .i64 0,AV.int .i64 0,AV.aA,AV.aA,AV.aA,AV.aA,AV.aA,AV.aA,AV.aA,AV.aA,AV.int .i64 0] 0∧Bk hh (h.n+1) [AV.int .i64 0,AV.int .i64 0,AV.int .i64 0,AV.int .i64 0,AV.int .i64 0,AV.int .i64 0,AV.int .i64 0,AV.int .i64 0,AV.int .i64 0,AV.str ⟨#[]⟩,AV.str ⟨#[]⟩,AV.aA,AV.int .i64 0,AV.bool false,AV.aA,AV.int .i64 0,AV.int .i64 0,AV.int .i64 0,AV.int .i64 0,AV.int .i64 0,AV.aA,AV.int .i64 0,AV.int .i64 0,AV.aA,AV.aA,AV.aA,AV.aA,AV.aA,AV.aA,AV.aA,AV.aA,AV.int .i64 0] 0∧(∀ d∈e,d≠b∧d≠b6∧d ∉ F)) (10+q') ⟨_,[],[h.n+2],_,_,_,rfl,by omega,re4,oe4,by simp,bW4,rp4,op4,nb4,hR0,kk4,cu4,b64,z14,z24,fun d hd=>by
  rw[List.mem_singleton.1 hd]
  exact⟨by omega,by omega,fun q=>by have:=(op4.2 _ q).1;omega⟩⟩ ?_
 clear re4 oe4 bW4 rp4 op4 nb4 kk4 cu4 b64 z14 z24 l43
 rintro k vs hh ⟨l,L,e,y,cs,F,rfl,hk0,rl,ol,hL,bW,rW,oW,nbW,hR,kk,cuh,bk6,z1,z2,de⟩
 simp only[g0,g1]
 have lW:cs.length=32:=Cel.len rW
 have nh:=kk.1
 have hbl:=bW.1
 have alP:=bk6.1
 have ltF:=Cel.lt rW
 have lte:=rl.lt
 have lc2:=cuh.lt
 by_cases hk:0 < k∧L.length < 150
 ·(repeat' first|refine vs ?_|((with_reducible refine XK ?_);refine zV aO (by assumption) (by decide) ?_)|(refine br ?_ ?_<;>first|exact bo|intro _)|fail)
  all_goals try(exfalso;omega)
  have cF:c ∉ F:=fun q=>by have:=(oW.2 c q).1;omega
  have ce2:c ∉ e:=fun q=>by have:=(ol.2 c q).1;omega
  refine aL (abW cuh rW cF hR.wi.tl) ?_
  rintro _ h5 ⟨k1,k2,s,va,G,rfl,ra,oa,kd,cu5,hs,hk2⟩
  have n5:=kd.1
  have rl5:ah h5 l L e:=aK kd rl fun d hd hm=>ce2 (List.mem_singleton.1 hm▸hd)
  have ol5:Own (h.n+2) h5 e:=(bX kd ⟨ol,rl.lt⟩ fun d hd hm=>ce2 (List.mem_singleton.1 hm▸hd)).1
  have bW5:Bk h5 b cs 0:=bI kd bW (iL (by omega))
  have rW5:Cel.rep h5 y cs F:=sZ kd rW fun d hd hm=>cF (List.mem_singleton.1 hm▸hd)
  have oW5:Own (h.n+3) h5 F:=(bX kd ⟨oW,ltF⟩ fun d hd hm=>cF (List.mem_singleton.1 hm▸hd)).1
  have b65:Bk h5 b6 cs0 0:=bI kd bk6 (iL (by omega))
  have z15:Bk h5 h.n [AV.int .i64 0,AV.int .i64 0,AV.int .i64 0,AV.int .i64 0,AV.int .i64 0,AV.int .i64 0,AV.int .i64 0,AV.int .i64 0,AV.int .i64 0,AV.str ⟨#[]⟩,AV.str ⟨#[]⟩,AV.aA,AV.int .i64 0,AV.bool false,AV.aA,AV.int .i64 0,AV.int .i64 0,AV.int .i64 0,AV.int .i64 0,AV.int .i64 0,AV.aA,AV.int .i64 0,AV.int .i64 0,AV.aA,AV.aA,AV.aA,AV.aA,AV.aA,AV.aA,AV.aA,AV.aA,AV.int .i64 0] 0:=bI kd z1 (iL (by omega))
  have z25:Bk h5 (h.n+1) [AV.int .i64 0,AV.int .i64 0,AV.int .i64 0,AV.int .i64 0,AV.int .i64 0,AV.int .i64 0,AV.int .i64 0,AV.int .i64 0,AV.int .i64 0,AV.str ⟨#[]⟩,AV.str ⟨#[]⟩,AV.aA,AV.int .i64 0,AV.bool false,AV.aA,AV.int .i64 0,AV.int .i64 0,AV.int .i64 0,AV.int .i64 0,AV.int .i64 0,AV.aA,AV.int .i64 0,AV.int .i64 0,AV.aA,AV.aA,AV.aA,AV.aA,AV.aA,AV.aA,AV.aA,AV.aA,AV.int .i64 0] 0:=bI kd z2 (iL (by omega))
  have kk5:Kp h h5 [c]:=kk.trans kd
  have lta:=ra.lt
  (repeat' first|refine vs0 ?_|fail)
  refine iC (α:=yh) (n:=h.n+2) (bytes:=80) (a:=⟨ecs k1 k2 s va,rfl⟩) (cs:=ecs k1 k2 s va) (G:=[]) (dU rl5) ⟨rfl,rfl⟩ (by rw[List.append_nil];exact(gy ⟨ol5,rl5.lt⟩).1) (by simp;omega) rfl (by omega) (by omega) ?_
  intro l' h6 e' _ k6 rl6 ol6 m6
  have n6:=k6.1;simp only[aJ] at n6
  have m6:∀ d∈e',d∈e∨h5.n+1≤d:=fun d hd=>by
   rcases m6 d hd with q|q|q
   ·exact .inl q
   ·cases q
   ·exact .inr (by simpa using q)
  have ne5:∀ d∈F,d ∉ e:=fun d hd hm=>(de d hm).2.2 hd
  have bW6:Bk h6 b cs 0:=bI k6 (iy bW5) fun q=>(de b q).1 rfl
  have rW6:Cel.rep h6 y cs F:=sZ k6 (jJ rW5 ((Ext.refl h5).push _)) ne5
  have oW6:Own (h.n+3) h6 F:=(bX k6 (gy ⟨oW5,Cel.lt rW5⟩) ne5).1
  have b66:Bk h6 b6 cs0 0:=bI k6 (iy b65) fun q=>(de b6 q).2.1 rfl
  have z16:Bk h6 h.n [AV.int .i64 0,AV.int .i64 0,AV.int .i64 0,AV.int .i64 0,AV.int .i64 0,AV.int .i64 0,AV.int .i64 0,AV.int .i64 0,AV.int .i64 0,AV.str ⟨#[]⟩,AV.str ⟨#[]⟩,AV.aA,AV.int .i64 0,AV.bool false,AV.aA,AV.int .i64 0,AV.int .i64 0,AV.int .i64 0,AV.int .i64 0,AV.int .i64 0,AV.aA,AV.int .i64 0,AV.int .i64 0,AV.aA,AV.aA,AV.aA,AV.aA,AV.aA,AV.aA,AV.aA,AV.aA,AV.int .i64 0] 0:=bI k6 (iy z15) fun q=>by have:=(ol5.2 _ q).1;omega
  have z26:Bk h6 (h.n+1) [AV.int .i64 0,AV.int .i64 0,AV.int .i64 0,AV.int .i64 0,AV.int .i64 0,AV.int .i64 0,AV.int .i64 0,AV.int .i64 0,AV.int .i64 0,AV.str ⟨#[]⟩,AV.str ⟨#[]⟩,AV.aA,AV.int .i64 0,AV.bool false,AV.aA,AV.int .i64 0,AV.int .i64 0,AV.int .i64 0,AV.int .i64 0,AV.int .i64 0,AV.aA,AV.int .i64 0,AV.int .i64 0,AV.aA,AV.aA,AV.aA,AV.aA,AV.aA,AV.aA,AV.aA,AV.aA,AV.int .i64 0] 0:=bI k6 (iy z25) fun q=>by have:=(ol5.2 _ q).1;omega
  have kk6:Kp h h6 [c]:=uQ k6 (kk5.push _) fun d hd=>by have:=(ol5.2 d hd).1;omega
  have cu6:Cur h6 c:=w9 k6 (BO cu5) fun d hd=>by have:=(ol5.2 d hd).1;omega
  have ra6:ah h6 va s.attrs G:=aK k6 (dU ra) fun d hd hm=>by have:=(oa.2 d hd).1;have:=lte d hm;omega
  have e6b:Bk h6 h5.n (ecs k1 k2 s va) 0:=bI k6 gF fun q=>by have:=rl5.lt _ q;omega
  have I6:=rl6.lt
  clear bW5 rW5 b65 z15 z25 kk5 cu5 ra rl5 ol5 k6 kd bW rW bk6 z1 z2 kk cuh rl ol
  refine zV bW6 lW (by decide) ?_
  refine aL (PO y (by have:=hR.fit (by omega) (by decide);omega) _ _ _ rW6) ?_
  rintro _ h7 ⟨e7,cs2,F2,rfl,r2,o2⟩
  have n7:=e7.1
  have l2:cs2.length=32:=Cel.len r2
  have lt2:=Cel.lt r2
  refine iH ?_
  refine zU l2 rfl ?_
  obtain⟨V,FF,rfl,eF,w8⟩:=PW.of (n:=h6.n) (h:=h7.push ⟨cs2,0,0⟩) (b:=h7.n) (jJ r2 ((Ext.refl h7).push _)) (gy ⟨o2,lt2⟩).1 gF n7 (fun q=>by have:=lt2 _ q;omega)
  have e8b:Bk (h7.push ⟨y.cv V,0,0⟩) h5.n (ecs k1 k2 s va) 0:=iy (fq e7 e6b)
  have alZ:Bk (h7.push ⟨y.cv V,0,0⟩) h5.n [.int .i64 k1,.int .i64 k2,.int .i64 s.trace,.int .i64 s.id,.int .i64 s.start,.int .i64 s.fin,.bool s.err,va] 0:=e8b
  (repeat' first|refine vs0 ?_|fail)
  refine aL (aep (N:=L.length) (M:=1300) (k1:=k1) (k2:=k2) (s:=s) (va:=va) w8 hR (by omega) (by decide) ⟨ajM hs,ajN hs⟩ (dU (iG e7 ra6)) (fun d hd=>by have:=lta d hd;omega) hk2) ?_
  rintro v9 h9 hd
  have Ex:Ext h6 (h7.push ⟨y.cv V,0,0⟩):=e7.trans ((Ext.refl h7).push _)
  have nX:∀ d,d < h6.n→d ∉ h7.n::FF.a:=fun d hd hm=>by
   rcases List.mem_cons.1 hm with q|q
   ·omega
   ·rw[eF] at q;have:=(o2.2 d q).1;omega
  have kx:Kp (h7.push ⟨y.cv V,0,0⟩) h9 (h7.n::FF.a):=by
   rcases hd with⟨-,y',⟨V',F',w',mv⟩,-⟩|⟨-,kf⟩
   ·exact mv.kp
   ·exact kf
  have n9:=kx.1;simp only[aJ] at n9
  have bW9:Bk h9 b cs 0:=bI kx (fq Ex bW6) (nX b (by omega))
  have rW9:Cel.rep h9 y cs F:=sZ kx (jJ rW6 Ex) fun d hd=>nX d (by have:=ltF d hd;omega)
  have oW9:Own (h.n+3) h9 F:=(bX kx (jk Ex ⟨oW6,fun d hd=>by have:=ltF d hd;omega⟩) fun d hd=>nX d (by have:=ltF d hd;omega)).1
  have rl9:ah h9 l' (L++[⟨ecs k1 k2 s va,rfl⟩]) e':=aK kx (iG Ex rl6) fun d hd=>nX d (I6 d hd)
  have ol9:Own (h.n+2) h9 e':=(bX kx (jk Ex ⟨ol6,I6⟩) fun d hd=>nX d (I6 d hd)).1
  have b69:Bk h9 b6 cs0 0:=bI kx (fq Ex b66) (nX b6 (by omega))
  have z19:Bk h9 h.n [AV.int .i64 0,AV.int .i64 0,AV.int .i64 0,AV.int .i64 0,AV.int .i64 0,AV.int .i64 0,AV.int .i64 0,AV.int .i64 0,AV.int .i64 0,AV.str ⟨#[]⟩,AV.str ⟨#[]⟩,AV.aA,AV.int .i64 0,AV.bool false,AV.aA,AV.int .i64 0,AV.int .i64 0,AV.int .i64 0,AV.int .i64 0,AV.int .i64 0,AV.aA,AV.int .i64 0,AV.int .i64 0,AV.aA,AV.aA,AV.aA,AV.aA,AV.aA,AV.aA,AV.aA,AV.aA,AV.int .i64 0] 0:=bI kx (fq Ex z16) (nX _ (by omega))
  have z29:Bk h9 (h.n+1) [AV.int .i64 0,AV.int .i64 0,AV.int .i64 0,AV.int .i64 0,AV.int .i64 0,AV.int .i64 0,AV.int .i64 0,AV.int .i64 0,AV.int .i64 0,AV.str ⟨#[]⟩,AV.str ⟨#[]⟩,AV.aA,AV.int .i64 0,AV.bool false,AV.aA,AV.int .i64 0,AV.int .i64 0,AV.int .i64 0,AV.int .i64 0,AV.int .i64 0,AV.aA,AV.int .i64 0,AV.int .i64 0,AV.aA,AV.aA,AV.aA,AV.aA,AV.aA,AV.aA,AV.aA,AV.aA,AV.int .i64 0] 0:=bI kx (fq Ex z26) (nX _ (by omega))
  have fX:∀ d∈h7.n::FF.a,h6.n≤d:=fun d hd=>by
   rcases Nat.lt_or_ge d h6.n with q|q
   ·exact absurd hd (nX d q)
   ·exact q
  have kk9:Kp h h9 [c]:=uQ kx (kk6.Lc Ex) fun d hd=>by have:=fX d hd;omega
  have cu9:Cur h9 c:=w9 kx (Vk Ex cu6) fun d hd=>by have:=fX d hd;omega
  have de':∀ d∈e',d≠b∧d≠b6∧d ∉ F:=fun d hd=>by
   rcases m6 d hd with q|q
   ·exact de d q
   ·exact⟨by omega,by omega,fun r=>by have:=ltF d r;omega⟩
  have en:(k:Int) - 1=((k - 1:Nat):Int):=by omega
  have hL':(L++[(⟨ecs k1 k2 s va,rfl⟩:yh)]).length=L.length+1:=by simp
  rcases hd with⟨rfl,y',⟨V',F',w',mv⟩,hR'⟩|⟨rfl,kf⟩
  ·refine gP (dL ?_)
   refine ajD w'.bk ?_
   refine xC bW9 lW rfl ?_
   (repeat' first|refine vs ?_|fail)
   obtain⟨rr,oo⟩:=w'.rep
   have fF:∀ d∈F'.a,h6.n≤d:=fun d hd=>(oo.2 d hd).1
   have nbF:b ∉ F'.a:=fun q=>by have:=fF b q;omega
   have nbe:b ∉ e':=fun q=>(de' b q).1 rfl
   rw[en]
   exact⟨k - 1,by omega,l',_,e',y',y'.cv V',F'.a,rfl,by omega,dH rl9 nbe,(dM ⟨ol9,rl9.lt⟩ nbe).1,by omega,gG bW9.1,sZ gU rr fun d hd hm=>nbF (List.mem_singleton.1 hm▸hd),((dM ⟨oo,w'.own.2⟩ nbF).1).mono (by omega) fun _ _=>rfl,nbF,by rw[hL'];exact hR',uY (by omega) kk9,wQ (by omega) cu9,kr b69 (by omega),kr z19 (by omega),kr z29 (by omega),fun d hd=>⟨(de' d hd).1,(de' d hd).2.1,fun hm=>by have:=fF d hm;have:=I6 d hd;omega⟩⟩
  ·refine gP (dO ?_)
   (repeat' first|refine vs ?_|fail)
   rw[en]
   exact⟨k - 1,by omega,l',_,e',y,cs,F,rfl,by omega,rl9,ol9,by omega,bW9,rW9,oW9,nbW,by rw[hL'];exact hR.aj1,kk9,cu9,b69,z19,z29,de'⟩
 ·(repeat' first|refine vs ?_|((with_reducible refine XK ?_);refine zV aO (by assumption) (by decide) ?_)|(refine br ?_ ?_<;>first|exact bo|intro _)|refine gS ?_|fail)
  all_goals try(exfalso;omega)
  all_goals
   have hbb:b≠h.n:=by omega
   have alN:b≠h.n+1:=by omega
   have hz1:=z1.1
   refine xC z1 rfl l0 ?_
   refine Xi (kr bW hbb) lW (by decide) ?_
   refine Xi (kr bW hbb) lW (by decide) ?_
   refine xC (kr z2 (by omega)) rfl lW ?_
   refine ahz (HY (kr (gG hz1) (by omega)) l0) Yi (HY (gG (by simpa using z2.1)) lW) ?_
   have nF1:h.n ∉ F:=fun q=>by have:=(oW.2 _ q).1;omega
   have nF2:h.n+1 ∉ F:=fun q=>by have:=(oW.2 _ q).1;omega
   refine⟨rfl,_,rfl,cs0,l,y,cs,F,rfl,l0,sZ gU (sZ gU rW fun d hd hm=>nF1 (List.mem_singleton.1 hm▸hd)) fun d hd hm=>nF2 (List.mem_singleton.1 hm▸hd),((dM (dM ⟨oW,ltF⟩ nF1) nF2).1).mono (by omega) fun _ _=>rfl,uY (by omega) (uY (Nat.le_refl _) kk),wQ (by omega) (wQ lc cuh),?_⟩
   exact hR.upto (by omega)
theorem aa7 {h:AH} {c:Nat} {m:Int} (cu:Cur h c) (h0:0 < m) (h1:m < 1000000):bq Tryz.prog JX [.ptr c 0,.int .i64 m] h (DrW h c):=by
 have lc:=cu.lt
 refine abr _ _ ?_
 unfold O4
 refine iH ?_
 refine aL (adi aT h0 h1) ?_
 rintro _ h2 ⟨ca,l,y,cs,F,rfl,lca,r,o,k2,cu2,hR⟩
 have n2:=k2.1;simp only[aJ] at n2
 have lcs:cs.length=32:=Cel.len r
 have lt:=Cel.lt r
 have z2:Bk h2 h.n [AV.int .i64 0,AV.int .i64 0,AV.int .i64 0,AV.int .i64 0,AV.int .i64 0,AV.int .i64 0,AV.int .i64 0,AV.int .i64 0,AV.int .i64 0,AV.str ⟨#[]⟩,AV.str ⟨#[]⟩,AV.aA,AV.int .i64 0,AV.bool false,AV.aA,AV.int .i64 0,AV.int .i64 0,AV.int .i64 0,AV.int .i64 0,AV.int .i64 0,AV.aA,AV.int .i64 0,AV.int .i64 0,AV.aA,AV.aA,AV.aA,AV.aA,AV.aA,AV.aA,AV.aA,AV.aA,AV.int .i64 0] 0:=aO
 refine mG rfl (mG rfl (mG rfl ?_))
 refine iH ?_
 refine iH ?_
 refine xC (cs:=ca) (iy gF) rfl lca ?_
 refine xC (cs:=cs) (kr gF (by simp)) rfl lcs ?_
 refine zV (cs:=cs) (gG (by simp)) lcs (by decide) ?_
 refine xC (kr (kr (iy (iy z2)) (by omega)) (by simp;omega)) rfl lcs ?_
 refine LU (HY (gG (by simp;omega)) lcs) ?_
 have nF:∀ d∈F,h.n+1≤d∧d < h2.n:=fun d hd=>⟨by have:=(o.2 d hd).1;simpa using this,lt d hd⟩
 have no:∀ {z:Nat},z < h.n+1∨h2.n≤z→z ∉ F:=fun hz q=>by have:=nF _ q;omega
 have n1:∀ {z:Nat} {g g':AH} {k:Blk},z ∉ F→Cel.rep g y cs F→Cel.rep (g.upd z k) y cs F:=fun hz rr=>sZ gU rr fun d hd hm=>hz (List.mem_singleton.1 hm▸hd)
 refine⟨rfl,_,rfl,y,cs,F,rfl,?_,?_,?_,?_,hR⟩
 ·refine n1 (g':=h) (no (.inl (by omega))) (n1 (g':=h) (no (.inr (by simp))) (n1 (g':=h) (no (.inr (by simp))) ?_))
  exact jJ r (((Ext.refl h2).push _).push _)
 ·refine((dM (dM (dM (gy (gy ⟨o,lt⟩)) (no (.inr (by simp)))) (no (.inr (by simp)))) (no (.inl (by omega)))).1).mono (by simp) fun _ _=>rfl
 ·exact uY (Nat.le_refl _) (uY (by simp;omega) (uY (by omega) ((((Kp.refl h [c]).push _).trans k2).push _ |>.push _)))
 ·exact wQ lc (wQ (by simp;omega) (wQ (by omega) (BO (BO cu2))))
end Go.Proofs.YtcgjihfngdhjjaaGreat
