import Derived.Test.YtekfdoknfcedpaaGreatDW99
import Derived.Test.YtekfdoknfcedpaaGreatDW100
import Derived.Test.YtekfdoknfcedpaaGreatDLWorld
import Derived.Test.YtekfdoknfcedpaaGreatDMWorld
set_option linter.unusedSimpArgs false
set_option linter.unusedVariables false
set_option maxHeartbeats 4000000
namespace Go.Proofs.YtekfdoknfcedpaaGreat
open Go Go.Ab
section
abbrev Zz (v10:AV) (v60:AV) (v57:AV) (v9:AV) (v20:AV) (v48:AV):Prog:=Ld 32 v10 fun a=>Cl vO [v60,a] fun a=>.op (.una .not a) fun a=>.gop a false (.mv v57) fun b=>.gop a false (.mv v9) fun c=>.gop a false (.bin 2 .neq b c) fun b=>Pk a (.bool true) b fun a=>.ite a (.fin [.val (.bool false)]) (Ld 32 v20 fun a=>Cl BR [a,.int .i64 1] fun a=>Bn .lss a (.int .i64 0) fun b=>.ite b (.fin [.val (.bool false)]) (Bn .neq a v48 fun a=>.ite a (.fin [.val (.bool false)]) (.fin [.val (.bool true)])))
abbrev Zy (v37:AV) (v40:AV) (v19:AV) (v9:AV) (v20:AV) (v1:AV) (x1:AV) (v10:AV):Prog:=.gop v37 false (.una .not v40) fun a=>Pk v37 (.bool true) a fun a=>.gop a false (.mv v19) fun b=>.gop a false (.mv v9) fun c=>.gop a false (.bin 2 .neq b c) fun b=>Pk a (.bool true) b fun a=>.ite a (.fin [.val (.bool false)]) (Ld 32 v20 fun a=>Cl BP [a,.int .i64 1] fun a=>Ld 32 v20 fun b=>Cl BR [b,.int .i64 1] fun b=>Bn .lss b (.int .i64 0) fun c=>.ite c (.fin [.val (.bool false)]) (Bn .neq b a fun b=>.ite b (.fin [.val (.bool false)]) (Ld 32 v1 fun b=>Cl vN [b] fun b=>Cl Cg [b,x1] fun b=>.op (.ext b 0) fun c=>.op (.ext b 1) fun b=>.op (.alloc j6) fun d=>.op (.st 32 d c) fun _=>Ld 32 d fun c=>Zz v10 c b v9 v20 a)))
abbrev Zx (v20:AV) (v18:AV) (v10:AV) (v19:AV) (v9:AV) (v14:AV) (v1:AV) (x1:AV):Prog:=.op (.st 32 v20 v18) fun _=>Ld 32 v20 fun a=>Ld 32 v10 fun b=>Cl vO [a,b] fun a=>.op (.una .not a) fun a=>.gop a false (.mv v19) fun b=>.gop a false (.mv v9) fun c=>.gop a false (.bin 2 .neq b c) fun b=>Pk a (.bool true) b fun a=>.ite a (.fin [.val (.bool false)]) (Ld 32 v14 fun a=>Ld 32 v1 fun b=>Cl vN [b] fun b=>.chk (.ldn 32 v14) a (Cl vO [a,b] fun a=>.op (.una .not a) fun a=>.ite a (.fin [.val (.bool false)]) (Ld 32 v14 fun a=>Cl BP [a,.int .i64 1] fun a=>Bn .lss a (.int .i64 0) fun a=>.gop a false (.ldn 32 v20) fun b=>.gop a false (.ldn 32 v10) fun c=>.gop a false (.call vO [b,c]) fun b=>Zy a b v19 v9 v20 v1 x1 v10)))
def MP (x0 x1:AV):Prog:=.op (.box x0) fun a=>Ld 32 a fun b=>Cl Dj [b,.int .i64 1048576] fun b=>Bn .lss b (.int .i64 0) fun b=>.ite b (.fin [.val (.bool true)]) (Ld 32 a fun b=>Cl vN [b] fun b=>Cl Ig [b,x1] fun b=>.op (.ext b 0) fun c=>.op (.ext b 1) fun b=>.op (.alloc j6) fun d=>.op (.st 32 d c) fun _=>Ld 32 a fun c=>Cl vN [c] fun c=>.op (.alloc j6) fun e=>.op (.st 32 e c) fun _=>Ld 32 e fun c=>Cl Cg [c,x1] fun c=>.op (.ext c 0) fun f=>.op (.ext c 1) fun c=>.op (.alloc j6) fun i=>Zx i f d c b e a x1)
theorem ZO (x0 x1:AV):CC Tryz.prog MQ [x0,x1] (MP x0 x1):=cc Tryz.func4 [] (fun r=>if r=10 then[(0,[]),(1,[]),(2,[0]),(3,[]),(4,[])] else[])
end
theorem Z0 {h:AH} {cs0:List AV} {x0:Wld} {F0:List Nat} (r0:Cel.rep h x0 cs0 F0) (k0:Cel.ok x0) {n1:Int} (k1:rng n1):aO Tryz.prog MQ [.agg cs0,.int .i64 n1] h (.bool true):=by
 have l0:cs0.length=32:=Cel.len r0
 refine reader (ZO _ _) (by simp only[old]) ?_
 unfold MP
 (repeat' first|refine vs ?_|((with_reducible refine jH ?_);refine iR aX (by assumption) (by decide) ?_)|(refine br ?_ ?_<;>first|exact bo|intro _)|((with_reducible refine ay Dj ?_);(refine ig (aeR _ (by assumption) _ _ _ _ (fD r0 aA) aL aL) (fun _=>?_) (fun _=>?_)))|fail)
 all_goals first|exact pb rfl|skip
 have hv:=ai2 x0 n1
 obtain⟨val,hval⟩:∃ val,val=(nN x0 n1).1:=⟨_,rfl⟩
 obtain⟨bl,hbl⟩:∃ bl,bl=(nN x0 n1).2:=⟨_,rfl⟩
 rw[←hval] at hv
 refine aG (CQ x0 (by omega) _ _ _ (fD r0 aA)) ?_
 rintro _ h1 ⟨e1,cs1,W1,rfl,p1,o1⟩
 have m1:=e1.1;(try simp only[aD,aN] at m1)
 have l1:cs1.length=32:=Cel.len p1
 (repeat' first|refine vs ?_|((with_reducible refine uK ?_);refine rC (by assumption) (by rfl) ?_)|((with_reducible refine jH ?_);refine iR aX (by assumption) (by decide) ?_)|((with_reducible refine LB ?_);refine FT aX (by assumption) (by decide) ?_)|(refine br ?_ ?_<;>first|exact bx|intro _)|((with_reducible refine aP ?_);((first|refine ix ?_|refine ixi ?_|(refine ixg ?_;intro _ _)|(refine kZ ?_;intro _ _));first|rintro _ _ _ _ _ ⟨rfl,rfl⟩ _|rintro _ _ _ _ _ ⟨_,rfl,_⟩ _|rintro _ _ _ _ _ ⟨_,_,_,_,rfl,rfl,_,_⟩ _|intro _ _ _ _ _ _ _))|(refine sx ?_;intro _ _)|((with_reducible refine bF ?_);simp only[g0,g1,g2]))
 refine aG (abf k0 (by omega) (p1)) ?_
 rintro _ h2 ⟨e2,cs2,W2,rfl,p2,o2⟩
 rw[←hval] at p2
 simp only[←hbl]
 have m2:=e2.1;(try simp only[aD,aN] at m2)
 have l2:cs2.length=32:=Cel.len p2
 (repeat' first|refine vs ?_|((with_reducible refine uK ?_);refine rC (by assumption) (by rfl) ?_)|((with_reducible refine jH ?_);refine iR aX (by assumption) (by decide) ?_)|fail)
 refine aG (CQ x0 (by omega) _ _ _ (fD r0 aA)) ?_
 rintro _ h3 ⟨e3,cs3,W3,rfl,p3,o3⟩
 have m3:=e3.1;(try simp only[aD,aN] at m3)
 have l3:cs3.length=32:=Cel.len p3
 (repeat' first|refine vs ?_|((with_reducible refine uK ?_);refine rC (by assumption) (by rfl) ?_)|((with_reducible refine jH ?_);refine iR aX (by assumption) (by decide) ?_)|fail)
 refine aG (Nq k0 (by omega) (fD p3 aA)) ?_
 rintro _ h4 ⟨e4,cs4,W4,rfl,p4,o4⟩
 rw[←hval] at p4
 simp only[←hbl]
 have m4:=e4.1;(try simp only[aD,aN] at m4)
 have l4:cs4.length=32:=Cel.len p4
 (repeat' first|refine vs ?_|((with_reducible refine uK ?_);refine rC (by assumption) (by rfl) ?_)|((with_reducible refine jH ?_);refine iR aX (by assumption) (by decide) ?_)|fail)
 refine aK (CS _ _ _ _ _ _ (fD p4 aA) (fD p2 aA)) ?_
 (repeat' first|refine vs ?_|((with_reducible refine jH ?_);refine iR aX (by assumption) (by decide) ?_)|fail)
 refine aG (CQ x0 (by omega) _ _ _ (fD r0 aA)) ?_
 rintro _ h5 ⟨e5,cs5,W5,rfl,p5,o5⟩
 have m5:=e5.1;(try simp only[aD,aN] at m5)
 have l5:cs5.length=32:=Cel.len p5
 refine FT (b:=h3.n) aX l3 (by decide) ?_
 (repeat' first|refine vs ?_|((with_reducible refine uK ?_);refine rC (by assumption) (by rfl) ?_)|((with_reducible refine jH ?_);refine iR aX (by assumption) (by decide) ?_)|((with_reducible refine LB ?_);refine FT aX (by assumption) (by decide) ?_)|(refine br ?_ ?_<;>first|exact bx|intro _)|((with_reducible refine aP ?_);((first|refine ix ?_|refine ixi ?_|(refine ixg ?_;intro _ _)|(refine kZ ?_;intro _ _));first|rintro _ _ _ _ _ ⟨rfl,rfl⟩ _|rintro _ _ _ _ _ ⟨_,rfl,_⟩ _|rintro _ _ _ _ _ ⟨_,_,_,_,rfl,rfl,_,_⟩ _|intro _ _ _ _ _ _ _))|(refine sx ?_;intro _ _)|((with_reducible refine bF ?_);simp only[g0,g1,g2]))
 refine aK (CS _ _ _ _ _ _ (fD p3 aA) (fD p5 aA)) ?_
 (repeat' first|refine vs ?_|((with_reducible refine jH ?_);refine iR aX (by assumption) (by decide) ?_)|fail)
 have lt0:=Cel.lt r0
 have lt2:=Cel.lt p2
 have lt3:=Cel.lt p3
 have lt4:=Cel.lt p4
 have c6:=Tk 1 x0
 have u6:=SB 1 x0
 refine aG (Nj (x:=x0) (F:=W3) (n:=0) (fD p3 aA) ((iB aA ⟨o3,Cel.lt p3⟩).1.mono (Nat.zero_le _) fun _ _=>rfl) aL (by omega)) ?_
 rintro _ h6 ⟨rfl,y6,q6,-⟩
 have m6:=y6.1
 have GR:∀ c∈F0,c ∉ W3:=fun c hc hc'=>by have:=lt0 c hc;have:=(o3.2 c hc').1;simp only[aD] at *;omega
 have amV:Cel.rep h6 x0 cs0 F0:=uh y6 (fD r0 aA) GR
 have GQ:∀ c∈W2,c ∉ W3:=fun c hc hc'=>by have:=lt2 c hc;have:=(o3.2 c hc').1;simp only[aD] at *;omega
 have Xq:Cel.rep h6 val cs2 W2:=uh y6 (fD p2 aA) GQ
 have amN:Bk h6 h.n cs0 0:=bJ y6 aX (fun hm=>by have:=(o3.2 _ hm).1;simp only[aD] at *;omega)
 have amM:Bk h6 h2.n cs2 0:=bJ y6 aX (fun hm=>by have:=(o3.2 _ hm).1;simp only[aD] at *;omega)
 have A8:∀ c∈W4,c ∉ W3:=fun c hc hc'=>by have:=(o4.2 c hc).1;have:=lt3 c hc';simp only[aD] at *;omega
 have Xp:Cel.rep h6 val cs4 W4:=uh y6 (fD p4 aA) A8
 have WA:Own 0 h6 W4:=(bq y6 (iB aA ⟨o4,Cel.lt p4⟩) A8).1.mono (Nat.zero_le _) fun _ _=>rfl
 have amL:Bk h6 h4.n cs4 0:=bJ y6 aX (fun hm=>by have:=lt3 _ hm;simp only[aD] at *;omega)
 (repeat' first|refine vs ?_|((with_reducible refine jH ?_);refine iR aX (by assumption) (by decide) ?_)|(refine br ?_ ?_<;>first|exact bo|intro _)|fail)
 refine aK (CS _ _ _ _ _ _ Xp Xq) ?_
 (repeat' first|refine vs ?_|((with_reducible refine jH ?_);refine iR aX (by assumption) (by decide) ?_)|fail)
 have c7:=Tk 1 val
 have u7:=SB 1 val
 refine aG (Nj (n:=0) Xp WA aL (by omega)) ?_
 rintro _ h7 ⟨rfl,y7,q7,-⟩
 clear WA
 have m7:=y7.1
 have GN:∀ c∈F0,c ∉ W4:=fun c hc hc'=>by have:=lt0 c hc;have:=(o4.2 c hc').1;simp only[aD] at *;omega
 have amU:Cel.rep h7 x0 cs0 F0:=uh y7 amV GN
 have GL:∀ c∈W2,c ∉ W4:=fun c hc hc'=>by have:=lt2 c hc;have:=(o4.2 c hc').1;simp only[aD] at *;omega
 have amT:Cel.rep h7 val cs2 W2:=uh y7 Xq GL
 have aol:Bk h7 h.n cs0 0:=bJ y7 amN (fun hm=>by have:=(o4.2 _ hm).1;simp only[aD] at *;omega)
 have aok:Bk h7 h2.n cs2 0:=bJ y7 amM (fun hm=>by have:=(o4.2 _ hm).1;simp only[aD] at *;omega)
 have aoj:Bk h7 h4.n cs4 0:=bJ y7 amL (fun hm=>by have:=lt4 _ hm;omega)
 (repeat' first|((with_reducible refine jH ?_);refine iR aX (by assumption) (by decide) ?_)|fail)
 refine aK (Nk (x:=val) (m:=1) q7 aL (by omega)) ?_
 (repeat' first|refine vs ?_|((with_reducible refine jH ?_);refine iR aX (by assumption) (by decide) ?_)|(refine br ?_ ?_<;>first|exact bo|intro _)|fail)
 refine aG (CQ x0 (by omega) _ _ _ (fD amU aA)) ?_
 rintro _ h8 ⟨e8,cs8,W8,rfl,p8,o8⟩
 have m8:=e8.1;(try simp only[aD,aN] at m8)
 have l8:cs8.length=32:=Cel.len p8
 (repeat' first|refine vs ?_|((with_reducible refine uK ?_);refine rC (by assumption) (by rfl) ?_)|((with_reducible refine jH ?_);refine iR aX (by assumption) (by decide) ?_)|((with_reducible refine LB ?_);refine FT aX (by assumption) (by decide) ?_)|(refine br ?_ ?_<;>first|exact bx|intro _)|((with_reducible refine aP ?_);((first|refine ix ?_|refine ixi ?_|(refine ixg ?_;intro _ _)|(refine kZ ?_;intro _ _));first|rintro _ _ _ _ _ ⟨rfl,rfl⟩ _|rintro _ _ _ _ _ ⟨_,rfl,_⟩ _|rintro _ _ _ _ _ ⟨_,_,_,_,rfl,rfl,_,_⟩ _|intro _ _ _ _ _ _ _))|(refine sx ?_;intro _ _)|((with_reducible refine bF ?_);simp only[g0,g1,g2]))
 refine aG (Nq k0 (by omega) (p8)) ?_
 rintro _ h9 ⟨e9,cs9,W9,rfl,p9,o9⟩
 rw[←hval] at p9
 simp only[←hbl]
 have m9:=e9.1;(try simp only[aD,aN] at m9)
 have l9:cs9.length=32:=Cel.len p9
 (repeat' first|refine vs ?_|((with_reducible refine uK ?_);refine rC (by assumption) (by rfl) ?_)|((with_reducible refine jH ?_);refine iR aX (by assumption) (by decide) ?_)|fail)
 refine aK (CS _ _ _ _ _ _ (fD p9 aA) (fD amT aA)) ?_
 (repeat' first|refine vs ?_|((with_reducible refine jH ?_);refine iR aX (by assumption) (by decide) ?_)|fail)
 refine aK (Nk (x:=val) (m:=1) (fD q7 aA) aL (by omega)) ?_
 (repeat' first|refine vs ?_|(refine br ?_ ?_<;>first|exact bo|intro _)|fail)
 exact pb rfl
end Go.Proofs.YtekfdoknfcedpaaGreat
