import Derived.Test.YtekfdoknfcedpaaGreatDW60
import Derived.Test.YtekfdoknfcedpaaGreatDW75
set_option linter.unusedSimpArgs false
set_option linter.unusedVariables false
set_option maxHeartbeats 1000000
namespace Go.Proofs.YtekfdoknfcedpaaGreat
open Go Go.Ab
section
def Sq (x0 x1:AV):Prog:=Cl gQ [x0] fun a=>Cl gQ [x1] fun b=>Bn .sub a b fun a=>Cl gQ [a] fun a=>.fin [.val a]
theorem ajz (x0 x1:AV):CC Tryz.prog uE [x0,x1] (Sq x0 x1):=cc Tryz.func217
def Sj (x0 x1:AV):Prog:=Cl gD [x0] fun a=>Cl gD [x1] fun b=>Bn .sub a b fun a=>Cl gD [a] fun a=>.fin [.val a]
theorem aju (x0 x1:AV):CC Tryz.prog uD [x0,x1] (Sj x0 x1):=cc Tryz.func259
def Sr (x0 x1:AV):Prog:=Cl gQ [x0] fun a=>Cl gQ [x1] fun b=>Bn .mul a b fun a=>Cl gQ [a] fun a=>.fin [.val a]
theorem ajA (x0 x1:AV):CC Tryz.prog CW [x0,x1] (Sr x0 x1):=cc Tryz.func216
def Sk (x0 x1:AV):Prog:=Cl gD [x0] fun a=>Cl gD [x1] fun b=>Bn .mul a b fun a=>Cl gD [a] fun a=>.fin [.val a]
theorem ajv (x0 x1:AV):CC Tryz.prog CS [x0,x1] (Sk x0 x1):=cc Tryz.func258
def Ob (x0:AV):Prog:=.op (.box x0) fun a=>Lg 3 a fun b=>Lg 2 a fun a=>Cl uE [b,a] fun a=>.fin [.val a]
theorem aeg (x0:AV):CC Tryz.prog AU [x0] (Ob x0):=cc Tryz.func285
def NA (x0:AV):Prog:=.op (.box x0) fun a=>Lg 3 a fun b=>Lg 2 a fun a=>Cl uD [b,a] fun a=>.fin [.val a]
theorem adK (x0:AV):CC Tryz.prog wF [x0] (NA x0):=cc Tryz.func330
def Q9 (x0 x1:AV):Prog:=.op (.box x0) fun a=>.op (.alloc [.int .i64 0,.int .i64 0,.int .i64 0,.int .i64 0]) fun b=>Ld 4 a fun c=>Cl mK [c] fun c=>.op (.una .not c) fun c=>.gop c false (.mv x1) fun d=>Gf c false 3 a fun e=>.gop c false (.call bK [d,e,.int .i64 2147483647]) fun d=>.gop c false (.una .not d) fun d=>Pk c (.bool true) d fun c=>.ite c (Ld 4 a fun a=>.op (.st 4 b a) fun _=>.fin [.cn 4 b]) (.op (.fad 2 a) fun c=>.op (.ld1 c) fun d=>.op (.fad 0 a) fun e=>.op (.ld1 e) fun f=>Lg 3 a fun i=>.op (.fad 1 a) fun j=>.op (.ld1 j) fun k=>Cl uE [x1,i] fun i=>.chk (.ld1 c) d (.chk (.ld1 e) f (.chk (.ld1 j) k (Cl CW [f,i] fun e=>.chk (.ld1 c) d (.chk (.ld1 j) k (Cl CY [d,e] fun c=>.chk (.ld1 j) k (.op (.mnx true [c,k]) fun c=>Sg 2 a c fun _=>Sg 3 a x1 fun _=>Ld 4 a fun a=>.op (.st 4 b a) fun _=>.fin [.cn 4 b])))))))
theorem aia (x0 x1:AV):CC Tryz.prog wQ [x0,x1] (Q9 x0 x1):=cc Tryz.func129 [] (fun r=>if r=3 then[(0,[]),(1,[]),(2,[]),(3,[]),(4,[]),(5,[]),(6,[]),(10,[]),(11,[]),(7,[1,3,11]),(8,[1,11]),(9,[11]),(12,[]),(13,[]),(14,[])] else[])
def Qv (x0 x1:AV):Prog:=.op (.box x0) fun a=>.op (.alloc [.int .i64 0,.int .i64 0,.int .i64 0,.int .i64 0]) fun b=>Ld 4 a fun c=>Cl mI [c] fun c=>.op (.una .not c) fun c=>.gop c false (.mv x1) fun d=>Gf c false 3 a fun e=>.gop c false (.bin 0 .lss d e) fun d=>Pk c (.bool true) d fun c=>.gop c false (.mv x1) fun d=>.gop c false (.bin 0 .gtr d (.int .i64 2147483647)) fun d=>Pk c (.bool true) d fun c=>.ite c (Ld 4 a fun a=>.op (.st 4 b a) fun _=>.fin [.cn 4 b]) (.op (.fad 2 a) fun c=>.op (.ld1 c) fun d=>.op (.fad 0 a) fun e=>.op (.ld1 e) fun f=>Lg 3 a fun i=>Cl uD [x1,i] fun i=>.chk (.ld1 c) d (.chk (.ld1 e) f (Cl CS [f,i] fun e=>.chk (.ld1 c) d (Cl CV [d,e] fun c=>Lg 1 a fun d=>Bn .gtr c d fun d=>.scope (.ite d (Lg 1 a fun a=>.leaf 0 [a]) (.leaf 0 [c])) (fun c=>Sg 2 a (g c 0) fun _=>Sg 3 a x1 fun _=>Ld 4 a fun a=>.op (.st 4 b a) fun _=>.fin [.cn 4 b]) fun a b=>aA a 1 (.leaf 1 b) .bad))))
theorem ahB (x0 x1:AV):CC Tryz.prog wM [x0,x1] (Qv x0 x1):=cc Tryz.func186 [1,2,4,5] (fun r=>if r=3 then[(0,[]),(1,[]),(2,[]),(3,[]),(4,[]),(5,[]),(6,[]),(7,[1,3]),(8,[1]),(9,[]),(10,[])] else[])
def RA (x0 x1:AV):Prog:=.op (.box x0) fun a=>.op (.alloc [.int .i64 0,.int .i64 0,.int .i64 0,.int .i64 0]) fun b=>Ld 4 a fun c=>Cl mK [c] fun c=>.op (.una .not c) fun c=>.gop c false (.mv x1) fun d=>Gf c false 2 a fun e=>.gop c false (.call bK [d,.int .i64 0,e]) fun d=>.gop c false (.una .not d) fun d=>Pk c (.bool true) d fun c=>.ite c (Ld 4 a fun a=>.op (.st 4 b a) fun _=>.fin [.cn 4 b,.val (.bool false)]) (Lg 2 a fun c=>Bn .sub c x1 fun c=>Sg 2 a c fun _=>Ld 4 a fun a=>.op (.st 4 b a) fun _=>.fin [.cn 4 b,.val (.bool true)])
theorem aiL (x0 x1:AV):CC Tryz.prog wV [x0,x1] (RA x0 x1):=cc Tryz.func131
def Rs (x0 x1:AV):Prog:=.op (.box x0) fun a=>.op (.alloc [.int .i64 0,.int .i64 0,.int .i64 0,.int .i64 0]) fun b=>Ld 4 a fun c=>Cl mI [c] fun c=>.op (.una .not c) fun c=>.gop c false (.mv x1) fun d=>.gop c false (.bin 0 .lss d (.int .i64 0)) fun d=>Pk c (.bool true) d fun c=>.gop c false (.mv x1) fun d=>Gf c false 2 a fun e=>.gop c false (.bin 0 .gtr d e) fun d=>Pk c (.bool true) d fun c=>.ite c (Ld 4 a fun a=>.op (.st 4 b a) fun _=>.fin [.cn 4 b,.val (.bool false)]) (Lg 2 a fun c=>Bn .sub c x1 fun c=>Sg 2 a c fun _=>Ld 4 a fun a=>.op (.st 4 b a) fun _=>.fin [.cn 4 b,.val (.bool true)])
theorem aiD (x0 x1:AV):CC Tryz.prog wT [x0,x1] (Rs x0 x1):=cc Tryz.func188
end
theorem Kt {P:Program} {h:AH} {Q:Nat→List AV→AH→Prop} {k:AV→Prog} {a b:Int} (ha:0≤a∧a≤2147483647) (hb:0≤b∧b≤2147483647) (hk:(k (.int .i64 (a * b))).awp P h Q):(Prog.op (.bin 0 .mul (.int .i64 a) (.int .i64 b)) k).awp P h Q:=by
 have h1:0≤a * b:=Int.mul_nonneg ha.1 hb.1
 have h2:a * b≤2147483647 * 2147483647:=Int.mul_le_mul ha.2 hb.2 hb.1 (by decide)
 exact U4 (by rw[iA (by omega) (by omega)];exact hk)
theorem Si {h:AH} {a b:Int}:aN Tryz.prog uE [.int .i64 a,.int .i64 b] h (.int .i64 (yT a b)):=by
 refine reader (ajz _ _) (by simp only[old]) ?_
 unfold Sq
 have:=jS a;have:=jS b
 (repeat' first|refine vs ?_|(refine br ?_ ?_<;>first|exact bx|intro _)|((with_reducible refine aB gQ ?_);refine aQ xk ?_)|((with_reducible refine aC ?_);((first|refine ix ?_|refine ixi ?_|(refine ixg ?_;intro _ _)|(refine aL ?_;intro _ _));first|rintro _ _ _ _ _ ⟨rfl,rfl⟩ _|rintro _ _ _ _ _ ⟨_,rfl,_⟩ _|rintro _ _ _ _ _ ⟨_,_,_,_,rfl,rfl,_,_⟩ _|intro _ _ _ _ _ _ _))|(refine sx ?_;intro _ _)|((with_reducible refine aJ ?_);simp only[g0,g1,g2]))
 exact pi rfl
theorem Sd {h:AH} {a b:Int}:aN Tryz.prog uD [.int .i64 a,.int .i64 b] h (.int .i64 (yT a b)):=by
 refine reader (aju _ _) (by simp only[old]) ?_
 unfold Sj
 have:=jS a;have:=jS b
 (repeat' first|refine vs ?_|(refine br ?_ ?_<;>first|exact bx|intro _)|((with_reducible refine aB gD ?_);refine aQ xg ?_)|((with_reducible refine aC ?_);((first|refine ix ?_|refine ixi ?_|(refine ixg ?_;intro _ _)|(refine aL ?_;intro _ _));first|rintro _ _ _ _ _ ⟨rfl,rfl⟩ _|rintro _ _ _ _ _ ⟨_,rfl,_⟩ _|rintro _ _ _ _ _ ⟨_,_,_,_,rfl,rfl,_,_⟩ _|intro _ _ _ _ _ _ _))|(refine sx ?_;intro _ _)|((with_reducible refine aJ ?_);simp only[g0,g1,g2]))
 exact pi rfl
theorem ajb {h:AH} {a b:Int}:aN Tryz.prog CW [.int .i64 a,.int .i64 b] h (.int .i64 (Gc a b)):=by
 refine reader (ajA _ _) (by simp only[old]) ?_
 unfold Sr
 (repeat' first|refine vs ?_|(refine Kt (jS _) (jS _) ?_)|(refine br ?_ ?_<;>first|exact bx|intro _)|((with_reducible refine aB gQ ?_);refine aQ xk ?_)|((with_reducible refine aC ?_);((first|refine ix ?_|refine ixi ?_|(refine ixg ?_;intro _ _)|(refine aL ?_;intro _ _));first|rintro _ _ _ _ _ ⟨rfl,rfl⟩ _|rintro _ _ _ _ _ ⟨_,rfl,_⟩ _|rintro _ _ _ _ _ ⟨_,_,_,_,rfl,rfl,_,_⟩ _|intro _ _ _ _ _ _ _))|(refine sx ?_;intro _ _)|((with_reducible refine aJ ?_);simp only[g0,g1,g2]))
 exact pi rfl
theorem ai8 {h:AH} {a b:Int}:aN Tryz.prog CS [.int .i64 a,.int .i64 b] h (.int .i64 (Gc a b)):=by
 refine reader (ajv _ _) (by simp only[old]) ?_
 unfold Sk
 (repeat' first|refine vs ?_|(refine Kt (jS _) (jS _) ?_)|(refine br ?_ ?_<;>first|exact bx|intro _)|((with_reducible refine aB gD ?_);refine aQ xg ?_)|((with_reducible refine aC ?_);((first|refine ix ?_|refine ixi ?_|(refine ixg ?_;intro _ _)|(refine aL ?_;intro _ _));first|rintro _ _ _ _ _ ⟨rfl,rfl⟩ _|rintro _ _ _ _ _ ⟨_,rfl,_⟩ _|rintro _ _ _ _ _ ⟨_,_,_,_,rfl,rfl,_,_⟩ _|intro _ _ _ _ _ _ _))|(refine sx ?_;intro _ _)|((with_reducible refine aJ ?_);simp only[g0,g1,g2]))
 exact pi rfl
theorem ads {h:AH} {s:Span} {v:AV}:aN Tryz.prog AU [.agg (s.cs v)] h (.int .i64 (lenOf s)):=by
 refine reader (aeg _) (by simp only[old,Span.cs,olds,and_self]) ?_
 unfold Ob
 (repeat' first|refine vs ?_|(refine br ?_ ?_<;>first|exact bx|intro _)|((with_reducible refine aB uE ?_);refine aQ Si ?_)|((with_reducible refine aC ?_);((first|refine ix ?_|refine ixi ?_|(refine ixg ?_;intro _ _)|(refine aL ?_;intro _ _));first|rintro _ _ _ _ _ ⟨rfl,rfl⟩ _|rintro _ _ _ _ _ ⟨_,rfl,_⟩ _|rintro _ _ _ _ _ ⟨_,_,_,_,rfl,rfl,_,_⟩ _|intro _ _ _ _ _ _ _))|(refine sx ?_;intro _ _)|((with_reducible refine aJ ?_);simp only[g0,g1,g2]))
 exact pi rfl
theorem ac5 {h:AH} {s:Span} {v:AV}:aN Tryz.prog wF [.agg (s.cs v)] h (.int .i64 (lenOf s)):=by
 refine reader (adK _) (by simp only[old,Span.cs,olds,and_self]) ?_
 unfold NA
 (repeat' first|refine vs ?_|(refine br ?_ ?_<;>first|exact bx|intro _)|((with_reducible refine aB uD ?_);refine aQ Sd ?_)|((with_reducible refine aC ?_);((first|refine ix ?_|refine ixi ?_|(refine ixg ?_;intro _ _)|(refine aL ?_;intro _ _));first|rintro _ _ _ _ _ ⟨rfl,rfl⟩ _|rintro _ _ _ _ _ ⟨_,rfl,_⟩ _|rintro _ _ _ _ _ ⟨_,_,_,_,rfl,rfl,_,_⟩ _|intro _ _ _ _ _ _ _))|(refine sx ?_;intro _ _)|((with_reducible refine aJ ?_);simp only[g0,g1,g2]))
 exact pi rfl
theorem TB {b:Bucket} {n:Int} (h1:gG b) (h2:b.at_≤n∧n≤2147483647):ny b n=⟨b.rate,b.aW,min (GD b.tokens (Gc b.rate (yT n b.at_))) b.aW,n⟩:=if_pos (eD ⟨h1,h2⟩)
theorem TD {b:Bucket} {n:Int} (h: ¬ (gG b∧b.at_≤n∧n≤2147483647)):ny b n=b:=if_neg (by rw[fU h];decide)
theorem aha {h:AH} {b:Bucket} {n:Int}:aN Tryz.prog wQ [.agg b.cs,.int .i64 n] h (.agg (ny b n).cs):=by
 refine reader (aia _ _) (by simp only[old,Bucket.cs,olds,and_self]) ?_
 unfold Q9
 (repeat' first|refine vs ?_|(refine br ?_ ?_<;>first|exact bx|intro _)|((with_reducible refine aB mK ?_);(refine aX (Ar (b:=b)) ?_ ?_<;>intro hn))|((with_reducible refine aB bK ?_);(refine cK (eY) ?_ ?_<;>intro hb<;>(first|replace hb:=dx hb|replace hb:=dz hb)))|((with_reducible refine aB uE ?_);refine aQ Si ?_)|((with_reducible refine aB CW ?_);refine aQ ajb ?_)|((with_reducible refine aB CY ?_);refine aQ ajd ?_)|((with_reducible refine aC ?_);((first|refine ix ?_|refine ixi ?_|(refine ixg ?_;intro _ _)|(refine aL ?_;intro _ _));first|rintro _ _ _ _ _ ⟨rfl,rfl⟩ _|rintro _ _ _ _ _ ⟨_,rfl,_⟩ _|rintro _ _ _ _ _ ⟨_,_,_,_,rfl,rfl,_,_⟩ _|intro _ _ _ _ _ _ _))|(refine sx ?_;intro _ _)|((with_reducible refine aJ ?_);simp only[g0,g1,g2]))
 all_goals first
  |exact pv (by rw[TD (by rintro⟨k1,k2⟩;first|contradiction|omega)];rfl)
  |exact pv (by rw[TB hn hb];rfl)
theorem agM {h:AH} {b:Bucket} {n:Int}:aN Tryz.prog wM [.agg b.cs,.int .i64 n] h (.agg (ny b n).cs):=by
 refine reader (ahB _ _) (by simp only[old,Bucket.cs,olds,and_self]) ?_
 unfold Qv
 (repeat' first|refine vs ?_|(refine br ?_ ?_<;>first|exact bx|intro _)|((with_reducible refine aB mI ?_);(refine aX (Am (b:=b)) ?_ ?_<;>intro hn))|((with_reducible refine aB uD ?_);refine aQ Sd ?_)|((with_reducible refine aB CS ?_);refine aQ ai8 ?_)|((with_reducible refine aB CV ?_);refine aQ aja ?_)|((with_reducible refine aC ?_);((first|refine ix ?_|refine ixi ?_|(refine ixg ?_;intro _ _)|(refine aL ?_;intro _ _));first|rintro _ _ _ _ _ ⟨rfl,rfl⟩ _|rintro _ _ _ _ _ ⟨_,rfl,_⟩ _|rintro _ _ _ _ _ ⟨_,_,_,_,rfl,rfl,_,_⟩ _|intro _ _ _ _ _ _ _))|(refine sx ?_;intro _ _)|((with_reducible refine aJ ?_);simp only[g0,g1,g2]))
 all_goals first
  |exact pv (by rw[TD (by rintro⟨k1,k2⟩;first|contradiction|omega)];rfl)
  |exact pv (by rw[TB hn ⟨by omega,by omega⟩,Int.min_def];first|rw[if_pos (by omega)];rfl|rw[if_neg (by omega)];rfl)
theorem Ec {b:Bucket} {n:Int} (h1:gG b) (h2:0≤n∧n≤b.tokens):kR b n=true∧ko b n={b with tokens:=b.tokens - n}:=by
 have e:kR b n=true:=eD ⟨h1,h2⟩
 exact⟨e,if_pos e⟩
theorem oV {b:Bucket} {n:Int} (h: ¬ (gG b∧0≤n∧n≤b.tokens)):kR b n=false∧ko b n=b:=by
 have e:kR b n=false:=fU h
 exact⟨e,if_neg (by rw[e];decide)⟩
theorem aiu {h:AH} {b:Bucket} {n:Int}:aN Tryz.prog wV [.agg b.cs,.int .i64 n] h (.tup [.agg (ko b n).cs,.bool (kR b n)]):=by
 refine reader (aiL _ _) (by simp only[old,Bucket.cs,olds,and_self]) ?_
 unfold RA
 by_cases hk:gG b
 ·have hk2:=hk;unfold gG at hk2
  (repeat' first|refine vs ?_|(refine br ?_ ?_<;>first|exact bx|intro _)|((with_reducible refine aB mK ?_);(refine aX (Ar (b:=b)) ?_ ?_<;>intro hn))|((with_reducible refine aB bK ?_);(refine cK (eY) ?_ ?_<;>intro hb<;>(first|replace hb:=dx hb|replace hb:=dz hb)))|((with_reducible refine aC ?_);((first|refine ix ?_|refine ixi ?_|(refine ixg ?_;intro _ _)|(refine aL ?_;intro _ _));first|rintro _ _ _ _ _ ⟨rfl,rfl⟩ _|rintro _ _ _ _ _ ⟨_,rfl,_⟩ _|rintro _ _ _ _ _ ⟨_,_,_,_,rfl,rfl,_,_⟩ _|intro _ _ _ _ _ _ _))|(refine sx ?_;intro _ _)|((with_reducible refine aJ ?_);simp only[g0,g1,g2]))
  all_goals first
   |exact absurd hk (by assumption)
   |exact pv (by rw[(oV (b:=b) (n:=n) (by omega)).1,(oV (b:=b) (n:=n) (by omega)).2];rfl)
   |exact pv (by rw[(Ec hk hb).1,(Ec hk hb).2];rfl)
 ·rw[(oV (b:=b) (n:=n) (fun k=>hk k.1)).1,(oV (b:=b) (n:=n) (fun k=>hk k.1)).2]
  (repeat' first|refine vs ?_|(refine br ?_ ?_<;>first|exact bx|intro _)|((with_reducible refine aB mK ?_);(refine aX (Ar (b:=b)) ?_ ?_<;>intro hn))|((with_reducible refine aC ?_);((first|refine ix ?_|refine ixi ?_|(refine ixg ?_;intro _ _)|(refine aL ?_;intro _ _));first|rintro _ _ _ _ _ ⟨rfl,rfl⟩ _|rintro _ _ _ _ _ ⟨_,rfl,_⟩ _|rintro _ _ _ _ _ ⟨_,_,_,_,rfl,rfl,_,_⟩ _|intro _ _ _ _ _ _ _))|(refine sx ?_;intro _ _)|((with_reducible refine aJ ?_);simp only[g0,g1,g2]))
  all_goals first
   |exact absurd (by assumption) hk
   |exact pv rfl
theorem aip {h:AH} {b:Bucket} {n:Int}:aN Tryz.prog wT [.agg b.cs,.int .i64 n] h (.tup [.agg (ko b n).cs,.bool (kR b n)]):=by
 refine reader (aiD _ _) (by simp only[old,Bucket.cs,olds,and_self]) ?_
 unfold Rs
 by_cases hk:gG b
 ·have hk2:=hk;unfold gG at hk2
  (repeat' first|refine vs ?_|(refine br ?_ ?_<;>first|exact bx|intro _)|((with_reducible refine aB mI ?_);(refine aX (Am (b:=b)) ?_ ?_<;>intro hn))|((with_reducible refine aC ?_);((first|refine ix ?_|refine ixi ?_|(refine ixg ?_;intro _ _)|(refine aL ?_;intro _ _));first|rintro _ _ _ _ _ ⟨rfl,rfl⟩ _|rintro _ _ _ _ _ ⟨_,rfl,_⟩ _|rintro _ _ _ _ _ ⟨_,_,_,_,rfl,rfl,_,_⟩ _|intro _ _ _ _ _ _ _))|(refine sx ?_;intro _ _)|((with_reducible refine aJ ?_);simp only[g0,g1,g2]))
  all_goals first
   |exact absurd hk (by assumption)
   |exact pv (by rw[(oV (b:=b) (n:=n) (by omega)).1,(oV (b:=b) (n:=n) (by omega)).2];rfl)
   |exact pv (by rw[(Ec (b:=b) (n:=n) hk ⟨by omega,by omega⟩).1,(Ec (b:=b) (n:=n) hk ⟨by omega,by omega⟩).2];rfl)
 ·rw[(oV (b:=b) (n:=n) (fun k=>hk k.1)).1,(oV (b:=b) (n:=n) (fun k=>hk k.1)).2]
  (repeat' first|refine vs ?_|(refine br ?_ ?_<;>first|exact bx|intro _)|((with_reducible refine aB mI ?_);(refine aX (Am (b:=b)) ?_ ?_<;>intro hn))|((with_reducible refine aC ?_);((first|refine ix ?_|refine ixi ?_|(refine ixg ?_;intro _ _)|(refine aL ?_;intro _ _));first|rintro _ _ _ _ _ ⟨rfl,rfl⟩ _|rintro _ _ _ _ _ ⟨_,rfl,_⟩ _|rintro _ _ _ _ _ ⟨_,_,_,_,rfl,rfl,_,_⟩ _|intro _ _ _ _ _ _ _))|(refine sx ?_;intro _ _)|((with_reducible refine aJ ?_);simp only[g0,g1,g2]))
  all_goals first
   |exact absurd (by assumption) hk
   |exact pv rfl
end Go.Proofs.YtekfdoknfcedpaaGreat
