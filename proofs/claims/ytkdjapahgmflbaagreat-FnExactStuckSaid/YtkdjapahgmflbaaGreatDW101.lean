import Derived.Test.YtkdjapahgmflbaaGreatDW60
import Derived.Test.YtkdjapahgmflbaaGreatDW75
set_option linter.unusedSimpArgs false
set_option linter.unusedVariables false
set_option maxHeartbeats 1000000
namespace Go.Proofs.YtkdjapahgmflbaaGreat
open Go Go.Ab
section
def Vp (x0 x1:AV):Prog:=Cl jL [x0] fun a=>Cl jL [x1] fun b=>Bn .sub a b fun a=>Cl jL [a] fun a=>.fin [.val a]
theorem ajC (x0 x1:AV):CC Tryz.prog xS [x0,x1] (Vp x0 x1):=cc Tryz.func136
def Vi (x0 x1:AV):Prog:=Cl jv [x0] fun a=>Cl jv [x1] fun b=>Bn .sub a b fun a=>Cl jv [a] fun a=>.fin [.val a]
theorem ajv (x0 x1:AV):CC Tryz.prog xQ [x0,x1] (Vi x0 x1):=cc Tryz.func389
def Vr (x0 x1:AV):Prog:=Cl jL [x0] fun a=>Cl jL [x1] fun b=>Bn .mul a b fun a=>Cl jL [a] fun a=>.fin [.val a]
theorem ajE (x0 x1:AV):CC Tryz.prog FR [x0,x1] (Vr x0 x1):=cc Tryz.func135
def Vk (x0 x1:AV):Prog:=Cl jv [x0] fun a=>Cl jv [x1] fun b=>Bn .mul a b fun a=>Cl jv [a] fun a=>.fin [.val a]
theorem ajx (x0 x1:AV):CC Tryz.prog FP [x0,x1] (Vk x0 x1):=cc Tryz.func388
def Qz (x0:AV):Prog:=.op (.box x0) fun a=>Lg 3 a fun b=>Lg 2 a fun a=>Cl xS [b,a] fun a=>.fin [.val a]
theorem adJ (x0:AV):CC Tryz.prog D8 [x0] (Qz x0):=cc Tryz.func248
def Qa (x0:AV):Prog:=.op (.box x0) fun a=>Lg 3 a fun b=>Lg 2 a fun a=>Cl xQ [b,a] fun a=>.fin [.val a]
theorem adb (x0:AV):CC Tryz.prog Ac [x0] (Qa x0):=cc Tryz.func418
def TP (x0 x1:AV):Prog:=.op (.box x0) fun a=>.op (.alloc [.int .i64 0,.int .i64 0,.int .i64 0,.int .i64 0]) fun b=>Ld 4 a fun c=>Cl pW [c] fun c=>.op (.una .not c) fun c=>.gop c false (.mv x1) fun d=>Gf c false 3 a fun e=>.gop c false (.call bq [d,e,.int .i64 2147483647]) fun d=>.gop c false (.una .not d) fun d=>Pk c (.bool true) d fun c=>.ite c (Ld 4 a fun a=>.op (.st 4 b a) fun _=>.fin [.cn 4 b]) (.op (.fad 2 a) fun c=>.op (.ld1 c) fun d=>.op (.fad 0 a) fun e=>.op (.ld1 e) fun f=>Lg 3 a fun i=>.op (.fad 1 a) fun j=>.op (.ld1 j) fun k=>Cl xS [x1,i] fun i=>.chk (.ld1 c) d (.chk (.ld1 e) f (.chk (.ld1 j) k (Cl FR [f,i] fun e=>.chk (.ld1 c) d (.chk (.ld1 j) k (Cl xU [d,e] fun c=>.chk (.ld1 j) k (.op (.mnx true [c,k]) fun c=>Sg 2 a c fun _=>Sg 3 a x1 fun _=>Ld 4 a fun a=>.op (.st 4 b a) fun _=>.fin [.cn 4 b])))))))
theorem ahN (x0 x1:AV):CC Tryz.prog Ap [x0,x1] (TP x0 x1):=cc Tryz.func44 [] (fun r=>if r=3 then[(0,[]),(1,[]),(2,[]),(3,[]),(4,[]),(5,[]),(6,[]),(10,[]),(11,[]),(7,[1,3,11]),(8,[1,11]),(9,[11]),(12,[]),(13,[]),(14,[])] else[])
def SS (x0 x1:AV):Prog:=.op (.box x0) fun a=>.op (.alloc [.int .i64 0,.int .i64 0,.int .i64 0,.int .i64 0]) fun b=>Ld 4 a fun c=>Cl pV [c] fun c=>.op (.una .not c) fun c=>.gop c false (.mv x1) fun d=>Gf c false 3 a fun e=>.gop c false (.bin 0 .lss d e) fun d=>Pk c (.bool true) d fun c=>.gop c false (.mv x1) fun d=>.gop c false (.bin 0 .gtr d (.int .i64 2147483647)) fun d=>Pk c (.bool true) d fun c=>.ite c (Ld 4 a fun a=>.op (.st 4 b a) fun _=>.fin [.cn 4 b]) (.op (.fad 2 a) fun c=>.op (.ld1 c) fun d=>.op (.fad 0 a) fun e=>.op (.ld1 e) fun f=>Lg 3 a fun i=>Cl xQ [x1,i] fun i=>.chk (.ld1 c) d (.chk (.ld1 e) f (Cl FP [f,i] fun e=>.chk (.ld1 c) d (Cl xR [d,e] fun c=>Lg 1 a fun d=>Bn .gtr c d fun d=>.scope (.ite d (Lg 1 a fun a=>.leaf 0 [a]) (.leaf 0 [c])) (fun c=>Sg 2 a (g c 0) fun _=>Sg 3 a x1 fun _=>Ld 4 a fun a=>.op (.st 4 b a) fun _=>.fin [.cn 4 b]) fun a b=>aB a 1 (.leaf 1 b) .bad))))
theorem ahc (x0 x1:AV):CC Tryz.prog Ak [x0,x1] (SS x0 x1):=cc Tryz.func336 [1,2,4,5] (fun r=>if r=3 then[(0,[]),(1,[]),(2,[]),(3,[]),(4,[]),(5,[]),(6,[]),(7,[1,3]),(8,[1]),(9,[]),(10,[])] else[])
def Uy (x0 x1:AV):Prog:=.op (.box x0) fun a=>.op (.alloc [.int .i64 0,.int .i64 0,.int .i64 0,.int .i64 0]) fun b=>Ld 4 a fun c=>Cl pW [c] fun c=>.op (.una .not c) fun c=>.gop c false (.mv x1) fun d=>Gf c false 2 a fun e=>.gop c false (.call bq [d,.int .i64 0,e]) fun d=>.gop c false (.una .not d) fun d=>Pk c (.bool true) d fun c=>.ite c (Ld 4 a fun a=>.op (.st 4 b a) fun _=>.fin [.cn 4 b,.val (.bool false)]) (Lg 2 a fun c=>Bn .sub c x1 fun c=>Sg 2 a c fun _=>Ld 4 a fun a=>.op (.st 4 b a) fun _=>.fin [.cn 4 b,.val (.bool true)])
theorem aiz (x0 x1:AV):CC Tryz.prog Aw [x0,x1] (Uy x0 x1):=cc Tryz.func236
def Um (x0 x1:AV):Prog:=.op (.box x0) fun a=>.op (.alloc [.int .i64 0,.int .i64 0,.int .i64 0,.int .i64 0]) fun b=>Ld 4 a fun c=>Cl pV [c] fun c=>.op (.una .not c) fun c=>.gop c false (.mv x1) fun d=>.gop c false (.bin 0 .lss d (.int .i64 0)) fun d=>Pk c (.bool true) d fun c=>.gop c false (.mv x1) fun d=>Gf c false 2 a fun e=>.gop c false (.bin 0 .gtr d e) fun d=>Pk c (.bool true) d fun c=>.ite c (Ld 4 a fun a=>.op (.st 4 b a) fun _=>.fin [.cn 4 b,.val (.bool false)]) (Lg 2 a fun c=>Bn .sub c x1 fun c=>Sg 2 a c fun _=>Ld 4 a fun a=>.op (.st 4 b a) fun _=>.fin [.cn 4 b,.val (.bool true)])
theorem aio (x0 x1:AV):CC Tryz.prog Au [x0,x1] (Um x0 x1):=cc Tryz.func338
end
theorem Mx {P:Program} {h:AH} {Q:Nat→List AV→AH→Prop} {k:AV→Prog} {a b:Int} (ha:0≤a∧a≤2147483647) (hb:0≤b∧b≤2147483647) (hk:(k (.int .i64 (a * b))).awp P h Q):(Prog.op (.bin 0 .mul (.int .i64 a) (.int .i64 b)) k).awp P h Q:=by
 have h1:0≤a * b:=Int.mul_nonneg ha.1 hb.1
 have h2:a * b≤2147483647 * 2147483647:=Int.mul_le_mul ha.2 hb.2 hb.1 (by decide)
 exact XZ (by rw[kL (by omega) (by omega)];exact hk)
theorem Vg {h:AH} {a b:Int}:aM Tryz.prog xS [.int .i64 a,.int .i64 b] h (.int .i64 (Cr a b)):=by
 refine reader (ajC _ _) (by simp only[old]) ?_
 unfold Vp
 have:=mD a;have:=mD b
 (repeat' first|refine vs ?_|((with_reducible refine aA jL ?_);refine aJ AL ?_)|fail)
 exact pi rfl
theorem Ve {h:AH} {a b:Int}:aM Tryz.prog xQ [.int .i64 a,.int .i64 b] h (.int .i64 (Cr a b)):=by
 refine reader (ajv _ _) (by simp only[old]) ?_
 unfold Vi
 have:=mD a;have:=mD b
 (repeat' first|refine vs ?_|((with_reducible refine aA jv ?_);refine aJ AJ ?_)|fail)
 exact pi rfl
theorem ajc {h:AH} {a b:Int}:aM Tryz.prog FR [.int .i64 a,.int .i64 b] h (.int .i64 (IJ a b)):=by
 refine reader (ajE _ _) (by simp only[old]) ?_
 unfold Vr
 (repeat' first|refine vs ?_|(refine Mx (mD _) (mD _) ?_)|((with_reducible refine aA jL ?_);refine aJ AL ?_)|fail)
 exact pi rfl
theorem ai8 {h:AH} {a b:Int}:aM Tryz.prog FP [.int .i64 a,.int .i64 b] h (.int .i64 (IJ a b)):=by
 refine reader (ajx _ _) (by simp only[old]) ?_
 unfold Vk
 (repeat' first|refine vs ?_|(refine Mx (mD _) (mD _) ?_)|((with_reducible refine aA jv ?_);refine aJ AJ ?_)|fail)
 exact pi rfl
theorem acS {h:AH} {s:Span} {v:AV}:aM Tryz.prog D8 [.agg (s.cs v)] h (.int .i64 (lenOf s)):=by
 refine reader (adJ _) (by simp only[old,Span.cs,olds,and_self]) ?_
 unfold Qz
 (repeat' first|refine vs ?_|((with_reducible refine aA xS ?_);refine aJ Vg ?_)|fail)
 exact pi rfl
theorem acz {h:AH} {s:Span} {v:AV}:aM Tryz.prog Ac [.agg (s.cs v)] h (.int .i64 (lenOf s)):=by
 refine reader (adb _) (by simp only[old,Span.cs,olds,and_self]) ?_
 unfold Qa
 (repeat' first|refine vs ?_|((with_reducible refine aA xQ ?_);refine aJ Ve ?_)|fail)
 exact pi rfl
theorem Wx {b:Bucket} {n:Int} (h1:jB b) (h2:b.at_≤n∧n≤2147483647):qI b n=⟨b.rate,b.bn,min (iK b.tokens (IJ b.rate (Cr n b.at_))) b.bn,n⟩:=if_pos (fI ⟨h1,h2⟩)
theorem Wy {b:Bucket} {n:Int} (h: ¬ (jB b∧b.at_≤n∧n≤2147483647)):qI b n=b:=if_neg (by rw[gu h];decide)
theorem agJ {h:AH} {b:Bucket} {n:Int}:aM Tryz.prog Ap [.agg b.cs,.int .i64 n] h (.agg (qI b n).cs):=by
 refine reader (ahN _ _) (by simp only[old,Bucket.cs,olds,and_self]) ?_
 unfold TP
 (repeat' first|refine vs ?_|((with_reducible refine aA pW ?_);(refine aS (DK (b:=b)) ?_ ?_<;>intro hn))|((with_reducible refine aA bq ?_);(refine bU (eZ) ?_ ?_<;>intro hb<;>(first|replace hb:=dx hb|replace hb:=dz hb)))|((with_reducible refine aA xS ?_);refine aJ Vg ?_)|((with_reducible refine aA FR ?_);refine aJ ajc ?_)|((with_reducible refine aA xU ?_);refine aJ Vh ?_)|fail)
 all_goals first
  |exact pv (by rw[Wy (by rintro⟨k1,k2⟩;contradiction)];rfl)
  |exact pv (by rw[Wx hn hb];rfl)
theorem agi {h:AH} {b:Bucket} {n:Int}:aM Tryz.prog Ak [.agg b.cs,.int .i64 n] h (.agg (qI b n).cs):=by
 refine reader (ahc _ _) (by simp only[old,Bucket.cs,olds,and_self]) ?_
 unfold SS
 (repeat' first|refine vs ?_|(refine br ?_ ?_<;>first|exact bx|intro _)|((with_reducible refine aA pV ?_);(refine aS (DC (b:=b)) ?_ ?_<;>intro hn))|((with_reducible refine aA xQ ?_);refine aJ Ve ?_)|((with_reducible refine aA FP ?_);refine aJ ai8 ?_)|((with_reducible refine aA xR ?_);refine aJ Vf ?_)|fail)
 all_goals first
  |exact pv (by rw[Wy (by rintro⟨k1,k2⟩;first|contradiction|omega)];rfl)
  |exact pv (by rw[Wx hn ⟨by omega,by omega⟩,Int.min_def];first|rw[if_pos (by omega)];rfl|rw[if_neg (by omega)];rfl)
theorem Gx {b:Bucket} {n:Int} (h1:jB b) (h2:0≤n∧n≤b.tokens):nG b n=true∧oZ b n={b with tokens:=b.tokens - n}:=by
 have e:nG b n=true:=fI ⟨h1,h2⟩
 exact⟨e,if_pos e⟩
theorem tF {b:Bucket} {n:Int} (h: ¬ (jB b∧0≤n∧n≤b.tokens)):nG b n=false∧oZ b n=b:=by
 have e:nG b n=false:=gu h
 exact⟨e,if_neg (by rw[e];decide)⟩
theorem ah7 {h:AH} {b:Bucket} {n:Int}:aM Tryz.prog Aw [.agg b.cs,.int .i64 n] h (.tup [.agg (oZ b n).cs,.bool (nG b n)]):=by
 refine reader (aiz _ _) (by simp only[old,Bucket.cs,olds,and_self]) ?_
 unfold Uy
 by_cases hk:jB b
 ·have hk2:=hk;unfold jB at hk2
  (repeat' first|refine vs ?_|((with_reducible refine aA pW ?_);(refine aS (DK (b:=b)) ?_ ?_<;>intro hn))|((with_reducible refine aA bq ?_);(refine bU (eZ) ?_ ?_<;>intro hb<;>(first|replace hb:=dx hb|replace hb:=dz hb)))|fail)
  all_goals first
   |exact absurd hk (by assumption)
   |exact pv (by rw[(tF (b:=b) (n:=n) (by omega)).1,(tF (b:=b) (n:=n) (by omega)).2];rfl)
   |exact pv (by rw[(Gx hk hb).1,(Gx hk hb).2];rfl)
 ·rw[(tF (b:=b) (n:=n) (fun k=>hk k.1)).1,(tF (b:=b) (n:=n) (fun k=>hk k.1)).2]
  (repeat' first|refine vs ?_|((with_reducible refine aA pW ?_);(refine aS (DK (b:=b)) ?_ ?_<;>intro hn))|fail)
  all_goals first
   |exact absurd (by assumption) hk
   |exact pv rfl
theorem ah1 {h:AH} {b:Bucket} {n:Int}:aM Tryz.prog Au [.agg b.cs,.int .i64 n] h (.tup [.agg (oZ b n).cs,.bool (nG b n)]):=by
 refine reader (aio _ _) (by simp only[old,Bucket.cs,olds,and_self]) ?_
 unfold Um
 by_cases hk:jB b
 ·have hk2:=hk;unfold jB at hk2
  (repeat' first|refine vs ?_|(refine br ?_ ?_<;>first|exact bx|intro _)|((with_reducible refine aA pV ?_);(refine aS (DC (b:=b)) ?_ ?_<;>intro hn))|fail)
  all_goals first
   |exact absurd hk (by assumption)
   |exact pv (by rw[(tF (b:=b) (n:=n) (by omega)).1,(tF (b:=b) (n:=n) (by omega)).2];rfl)
   |exact pv (by rw[(Gx (b:=b) (n:=n) hk ⟨by omega,by omega⟩).1,(Gx (b:=b) (n:=n) hk ⟨by omega,by omega⟩).2];rfl)
 ·rw[(tF (b:=b) (n:=n) (fun k=>hk k.1)).1,(tF (b:=b) (n:=n) (fun k=>hk k.1)).2]
  (repeat' first|refine vs ?_|(refine br ?_ ?_<;>intro _<;>try(exfalso;contradiction))|((with_reducible refine aA pV ?_);(refine aS (DC (b:=b)) ?_ ?_<;>intro hn))|fail)
  all_goals first
   |exact absurd (by assumption) hk
   |exact pv rfl
end Go.Proofs.YtkdjapahgmflbaaGreat
