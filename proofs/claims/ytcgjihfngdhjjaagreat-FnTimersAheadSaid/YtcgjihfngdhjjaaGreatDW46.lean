import Derived.Test.YtcgjihfngdhjjaaGreatDW51
import Derived.Test.YtcgjihfngdhjjaaGreatDW60
import Derived.Test.YtcgjihfngdhjjaaGreatDW132
import Derived.Test.YtcgjihfngdhjjaaGreatDKW2
import Derived.Test.YtcgjihfngdhjjaaGreatDKW1
import Derived.Test.YtcgjihfngdhjjaaGreatDK4
section
set_option linter.unusedSimpArgs false
set_option linter.unusedVariables false
set_option maxHeartbeats 4000000
namespace Go.Proofs.YtcgjihfngdhjjaaGreat
open Go Go.Ab
section
def P9 (x0 x1:AV):Prog:=.op (.box x1) fun a=>.op (.alloc u7) fun b=>Cl fP [x0,.int .i64 12] fun c=>Bn .eql c (.int .i64 0) fun d=>.scope (.ite d (.leaf 0 [d]) (Bn .eql c (.int .i64 1) fun a=>.scope (.ite a (.leaf 0 [a]) (Bn .eql c (.int .i64 2) fun a=>.leaf 0 [a])) (fun a=>.leaf 0 [g a 0]) fun a b=>aC a 1 (.leaf 1 b) .bad)) (fun d=>.ite (g d 0) (Cl yM [x0] fun a=>.op (.alloc jT) fun c=>.op (.st 6 c a) fun _=>Cl wD [x0] fun a=>Sg 5 c a fun _=>Cl jA [x0,.int .i64 16] fun a=>.scope (.ite a (Cl FN [x0] fun a=>.op (.st 6 c a) fun _=>.leaf 0 []) (.leaf 0 [])) (fun _=>Ld 6 c fun a=>Cl fP [x0,.int .i64 3] fun d=>.chk (.ldn 6 c) a (.op (.build u7 [(0,1,.int .i64 1),(1,1,d),(2,6,a)]) fun a=>.op (.st 8 b a) fun _=>.fin [.cn 8 b])) fun a b=>aC a 1 (.leaf 1 b) .bad) (Bn .eql c (.int .i64 3) fun d=>.ite d (.op (.aS 1 5 Wy [(0,1,.int .i64 1),(1,1,.int .i64 1),(2,1,.int .i64 2),(3,1,.int .i64 5),(4,1,.int .i64 9)]) fun a=>Cl gI [x0,a] fun a=>.op (.build u7 [(0,1,.int .i64 3),(1,1,a)]) fun a=>.op (.st 8 b a) fun _=>.fin [.cn 8 b]) (Bn .eql c (.int .i64 4) fun d=>.ite d (.op (.build u7 [(0,1,.int .i64 4)]) fun a=>.op (.st 8 b a) fun _=>.fin [.cn 8 b]) (Bn .eql c (.int .i64 5) fun c=>.scope (.ite c (Cl jA [x0,.int .i64 10] fun a=>.ite a (.op (.build u7 [(0,1,.int .i64 5)]) fun a=>.op (.st 8 b a) fun _=>.fin [.cn 8 b]) (.leaf 0 [])) (.leaf 0 [])) (fun _=>Cl fP [x0,.int .i64 5] fun c=>.scope (.loop [c,.int .i64 0] (fun b=>Bn .lss (g b 1) (.int .i64 3) fun c=>.ite c (Lg 29 a fun c=>Ix 12 c (g b 0) fun c=>Lg 0 c fun c=>Bn .neq c (.int .i64 0) fun c=>.gop c false (.mv (g b 0)) fun d=>.gop c false (.bin 0 .geq d (.int .i64 3)) fun d=>.gop c false (.mv d) fun d=>Gf d true 26 a fun a=>.gop d true (.len 0 a) fun a=>.gop d true (.bin 0 .gtr a (.int .i64 0)) fun a=>.gop c false (.pick d a (.bool false)) fun a=>Pk c (.bool true) a fun a=>.ite a (.leaf 3 [g b 0,g b 1]) (Cl fP [x0,.int .i64 5] fun a=>Bn .add (g b 1) (.int .i64 1) fun b=>.leaf 0 [a,b])) (.leaf 3 [g b 0,g b 1])) fun a b=>aC a 1 (.leaf 1 b) (aC a 3 (.leaf 0 [g b 0,g b 1]) .bad)) (fun a=>.op (.build u7 [(0,1,.int .i64 2),(1,1,g a 0)]) fun a=>.op (.st 8 b a) fun _=>.fin [.cn 8 b]) fun a b=>aC a 1 (.leaf 1 b) .bad) fun a b=>aC a 1 (.leaf 1 b) .bad)))) fun a b=>aC a 1 (.leaf 1 b) .bad
theorem acy (x0 x1:AV):CC Tryz.prog Ke [x0,x1] (P9 x0 x1):=cc Tryz.func169 [0,3,4,5,6,7,9,10] (fun r=>if r=9 then[(0,[]),(2,[]),(1,[2]),(3,[]),(4,[])] else[])
end
def DrE (h:AH) (c:Nat):AV→AH→Prop:=fun u h'=>∃ (k1 k2:Int) (s:Span) (va:AV) (G:List Nat),u= .agg [.int .i64 k1,.int .i64 k2,.int .i64 s.trace,.int .i64 s.id,.int .i64 s.start,.int .i64 s.fin,.bool s.err,va]∧ah h' va s.attrs G∧Own h.n h' G∧Kp h h' [c]∧Cur h' c∧sA s∧(-1000000≤k2∧k2≤1000000)
theorem Xy:sA iA:=⟨⟨⟨by decide,by decide⟩,⟨by decide,by decide⟩,⟨by decide,by decide⟩,⟨by decide,by decide⟩⟩,by decide,fun a ha=>(by cases ha)⟩
abbrev zE:List AV:=[.int .i64 0,.int .i64 0,.int .i64 0,.int .i64 0,.int .i64 0,.int .i64 0,.bool false,.aA]
theorem abW {h:AH} {c:Nat} {x:Wld} {cs:List AV} {F:List Nat} (cu:Cur h c) (r:Cel.rep h x cs F) (hF:c ∉ F) (h5:x.tasks.length=5):bq Tryz.prog Ke [.ptr c 0,.agg cs] h (DrE h c):=by
 have lc:=cu.lt
 obtain⟨v0,v1,v2,v3,v4,v5,v6,v7,v8,v9,v10,F0,F1,F2,F3,F4,F5,F6,F7,F8,F9,F10,rfl,rfl,r0,r1,r2,r3,r4,r5,r6,r7,r8,r9,r10⟩:=r
 have c9:c ∉ F9:=fun q=>hF (by simp[q])
 have r9s:=r9.small
 refine acy _ _ ?_
 unfold P9
 (repeat' first|refine vs ?_|(refine br ?_ ?_<;>first|exact bx|intro _)|((with_reducible refine aG fP ?_);(refine aL (lZ aT (by omega) (by omega)) ?_;rintro _ h2 ⟨q,rfl,hq0,hq1,k2,cu2⟩;have n2:=k2.1;(try simp only[aJ,aN] at n2)))|((with_reducible refine aG yM ?_);(refine aL (QZ aT) ?_;rintro _ h2 ⟨⟨_,_,_,_,_,l⟩,_,G,rfl,⟨u,rfl,ru⟩,ou,k2,cu2,hs⟩;have n2:=k2.1;(try simp only[aJ,aN] at n2);dsimp only[Span.cs];dsimp only at ru;replace hs:=Yh hs))|((with_reducible refine aG FN ?_);(refine aL (aem aT) ?_;rintro _ h2 ⟨⟨_,_,_,_,_,l⟩,_,G,rfl,⟨u,rfl,ru⟩,ou,k2,cu2,hs⟩;have n2:=k2.1;(try simp only[aJ,aN] at n2);dsimp only[Span.cs];dsimp only at ru))|((with_reducible refine aG wD ?_);(refine aL (Ku aT) ?_;rintro u h2 ⟨l,G,ru,ou,k2,cu2,hl⟩;have n2:=k2.1;(try simp only[aJ,aN] at n2)))|((with_reducible refine aG jA ?_);(refine aL (uG aT (by omega) (by omega)) ?_;rintro _ h2 ⟨b,rfl,k2,cu2⟩;have n2:=k2.1;(try simp only[aJ,aN] at n2);cases b))|((with_reducible refine aG gI ?_);(refine aL (Bj aT aO aV (by rfl) (by decide) (by decide) Cj) ?_;rintro _ h2 ⟨q,rfl,hq0,hq1,k2,cu2⟩;have n2:=k2.1;(try simp only[aJ,aN] at n2)))|refine gS ?_|fail)
 all_goals first
  |exact⟨rfl,_,rfl,_,_,iA,_,_,rfl,ah.aA,Own.nil,bQ,aT,Xy,by omega⟩
  |exact⟨rfl,_,rfl,_,_,⟨_,_,_,_,_,l⟩,_,_,rfl,aB,aY,bQ,aT,hs,by omega⟩
  |exact⟨rfl,_,rfl,_,_,⟨_,_,_,_,_,l⟩,_,_,rfl,aB,aY,bQ,aT,⟨hs.1,M8 hl⟩,by omega⟩
  |skip
 all_goals
  refine aX 3 (fun n vs h3=>∃ k:Int,vs=[.int .i64 k,.int .i64 (n:Int)]∧(0≤k∧k < 5)∧n≤3∧Kp h h3 [c]∧Cur h3 c∧Bk h3 (h.n+1) zE 0∧Bk h3 h.n (x.cs v0 v1 v2 v3 v4 v5 v6 v7 v8 v9 v10) 0∧ah h3 v9 x.tasks F9∧h.n+2≤h3.n) ⟨_,rfl,⟨by assumption,by assumption⟩,by omega,bQ,aT,aO,aO,aB,by omega⟩ ?_
  rintro n vs h3 _ ⟨k,rfl,hk,hn,k3,cu3,bE,bW,q9,n3⟩
  simp only[g0,g1]
  obtain⟨t,ht,-,-⟩:=aU (show k.toNat < x.tasks.length by omega)
  (repeat' first|refine vs ?_|(refine br ?_ ?_<;>first|exact bx|intro _)|((with_reducible refine aG fP ?_);(refine aL (lZ aT (by omega) (by omega)) ?_;rintro _ h2 ⟨q,rfl,hq0,hq1,k2,cu2⟩;have n2:=k2.1;(try simp only[aJ,aN] at n2)))|((with_reducible refine bB ?_);((refine ixi ?_);rintro _ _ _ _ _ ⟨_,_,_,_,rfl,rfl,_,_⟩ _))|fail)
  all_goals first
   |exact⟨by omega,_,rfl,by omega,by omega,bQ,aT,aO,aO,aB,by omega⟩
   |exact⟨rfl,_,rfl,_,_,iA,_,_,rfl,ah.aA,Own.nil,bQ,aT,Xy,by omega⟩
end Go.Proofs.YtcgjihfngdhjjaaGreat
end
section
set_option linter.unusedSimpArgs false
set_option linter.unusedVariables false
set_option maxHeartbeats 2000000
namespace Go.Proofs.YtcgjihfngdhjjaaGreat
open Go Go.Ab
section
def TL (x0:AV):Prog:=Ln 0 x0 fun a=>Bn .gtr a (.int .i64 1048576) fun a=>.fin [.val a]
theorem afU (x0:AV):CC Tryz.prog Bu [x0] (TL x0):=cc Tryz.func9
end
theorem aiD {g h h0:AH} {c:Nat} (k:Kp g h [c]) (hc:h0.n≤c) (e:Ext h0 g):Ext h0 h:=k.ext e fun b hb=>by rw[List.mem_singleton.1 hb];exact hc
theorem ahu {a b:AH} (e:Ext a b:=by(repeat(first|exact Ext.refl _|refine Ext.push ?_ _|refine Ext.trans ?_ (by assumption)))):Ext a b:=e
theorem KY {h:AH} {l:List UInt8} {v:AV} {F:List Nat} (r:ah h v l F):aP Tryz.prog Bu [v] h (.bool (bp (1048576 < l.length))):=by
 refine reader (afU _) (by simp only[old]) ?_
 unfold TL
 (repeat' first|refine vs ?_|(refine br ?_ ?_<;>first|exact bx|intro _)|fail)
 ·exact pt (by omega)
 ·exact pf (by omega)
set_option maxRecDepth 20000 in
def cn:List ByteArray:=[⟨#[104,101,108,100]⟩,⟨#[108,97,116,101]⟩,⟨#[103,111,110,101]⟩,⟨#[115,104,117,116]⟩,⟨#[98,97,100]⟩]
end Go.Proofs.YtcgjihfngdhjjaaGreat
end
