import Derived.Test.YtekfdoknfcedpaaGreatDW80
set_option linter.unusedSimpArgs false
set_option linter.unusedVariables false
set_option maxHeartbeats 2000000
namespace Go.Proofs.YtekfdoknfcedpaaGreat
open Go Go.Ab
attribute[local irreducible] dK
section
def MI (x0 x1 x2:AV):Prog:=.op (.box x1) fun a=>Lf 14 x0 fun b=>Lg 0 a fun c=>Cl Hz [b,c] fun b=>Sf 14 x0 b fun _=>.op (.dL x0) fun b=>.op (.fad 21 b) fun b=>.op (.ld1 b) fun c=>Ld 4 a fun d=>Cl tL [d] fun d=>.chk (.ld1 b) c (Bn .sub c d fun b=>Sf 21 x0 b fun _=>Lf 20 x0 fun b=>Lg 0 a fun c=>Lg 1 a fun a=>.op (.build [.int .i64 0,.int .i64 0,.bool false] [(0,1,c),(1,1,a),(2,1,x2)]) fun a=>.op (.dL x0) fun c=>.op (.fad 0 c) fun c=>Lg 3 c fun c=>Cl Iu [b,a,c] fun a=>.op (.ext a 0) fun b=>.op (.ext a 1) fun a=>Sf 20 x0 b fun _=>.fin [.val a])
theorem ab3 (x0 x1 x2:AV):CC Tryz.prog Hu [x0,x1,x2] (MI x0 x1 x2):=cc Tryz.func189 [] (fun r=>if r=1 then[(0,[]),(1,[]),(2,[]),(3,[]),(4,[]),(5,[]),(6,[]),(7,[]),(8,[]),(9,[]),(10,[])] else if r=2 then[(0,[]),(1,[]),(2,[]),(3,[]),(4,[]),(5,[]),(6,[4]),(7,[]),(8,[]),(9,[]),(10,[])] else if r=3 then[(0,[]),(1,[]),(2,[]),(3,[]),(4,[]),(5,[]),(6,[]),(7,[]),(8,[]),(9,[]),(10,[]),(11,[]),(12,[]),(13,[]),(14,[]),(15,[]),(16,[]),(17,[]),(18,[]),(19,[]),(20,[])] else[])
def RN (x0 x1 x2:AV):Prog:=.op (.box x1) fun a=>Lf 14 x0 fun b=>Lg 0 a fun c=>Cl Ij [b,c] fun b=>Sf 14 x0 b fun _=>.op (.dL x0) fun b=>.op (.fad 21 b) fun b=>.op (.ld1 b) fun c=>Ld 4 a fun d=>Cl tY [d] fun d=>.chk (.ld1 b) c (Bn .sub c d fun b=>Sf 21 x0 b fun _=>Lf 20 x0 fun b=>Lg 0 a fun c=>Lg 1 a fun a=>.op (.build [.int .i64 0,.int .i64 0,.bool false] [(0,1,c),(1,1,a),(2,1,x2)]) fun a=>.op (.dL x0) fun c=>.op (.fad 0 c) fun c=>Lg 3 c fun c=>Cl IG [b,a,c] fun a=>.op (.ext a 0) fun b=>.op (.ext a 1) fun a=>Sf 20 x0 b fun _=>.fin [.val a])
theorem ai0 (x0 x1 x2:AV):CC Tryz.prog JB [x0,x1,x2] (RN x0 x1 x2):=cc Tryz.func132 [] (fun r=>if r=1 then[(0,[]),(1,[]),(2,[]),(3,[]),(4,[]),(5,[]),(6,[]),(7,[]),(8,[]),(9,[]),(10,[])] else if r=2 then[(0,[]),(1,[]),(2,[]),(3,[]),(4,[]),(5,[3]),(6,[]),(7,[]),(8,[]),(9,[])] else if r=3 then[(0,[]),(1,[]),(2,[]),(3,[]),(4,[]),(5,[]),(6,[]),(7,[]),(8,[]),(9,[]),(10,[]),(11,[]),(12,[]),(13,[]),(14,[]),(15,[]),(16,[]),(17,[]),(18,[]),(19,[]),(20,[])] else[])
end
end Go.Proofs.YtekfdoknfcedpaaGreat
