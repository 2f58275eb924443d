import Derived.Test.YtekfdoknfcedpaaGreatDW112
import Derived.Test.YtekfdoknfcedpaaGreatDW113
import Derived.Test.YtekfdoknfcedpaaGreatDLWorld
import Derived.Test.YtekfdoknfcedpaaGreatDMWorld
set_option linter.unusedSimpArgs false
set_option linter.unusedVariables false
set_option maxHeartbeats 4000000
namespace Go.Proofs.YtekfdoknfcedpaaGreat
open Go Go.Ab
section
abbrev Zq (v10:AV) (v60:AV) (v57:AV) (v9:AV) (v20:AV) (v48:AV):Prog:=Ld 32 v10 fun a=>Cl tO [v60,a] fun a=>.op (.una .not a) fun a=>.gop a false (.mv v57) fun b=>.gop a false (.mv v9) fun c=>.gop a false (.bin 2 .neq b c) fun b=>Pk a (.bool true) b fun a=>.ite a (.fin [.val (.bool false)]) (Ld 32 v20 fun a=>Cl zZ [a,.int .i64 1] fun a=>Bn .lss a (.int .i64 0) fun b=>.ite b (.fin [.val (.bool false)]) (Bn .neq a v48 fun a=>.ite a (.fin [.val (.bool false)]) (.fin [.val (.bool true)])))
abbrev Zp (v37:AV) (v40:AV) (v19:AV) (v9:AV) (v20:AV) (v1:AV) (x1:AV) (v10:AV):Prog:=.gop v37 false (.una .not v40) fun a=>Pk v37 (.bool true) a fun a=>.gop a false (.mv v19) fun b=>.gop a false (.mv v9) fun c=>.gop a false (.bin 2 .neq b c) fun b=>Pk a (.bool true) b fun a=>.ite a (.fin [.val (.bool false)]) (Ld 32 v20 fun a=>Cl zX [a,.int .i64 1] fun a=>Ld 32 v20 fun b=>Cl zZ [b,.int .i64 1] fun b=>Bn .lss b (.int .i64 0) fun c=>.ite c (.fin [.val (.bool false)]) (Bn .neq b a fun b=>.ite b (.fin [.val (.bool false)]) (Ld 32 v1 fun b=>Cl tN [b] fun b=>Cl Ak [b,x1] fun b=>.op (.ext b 0) fun c=>.op (.ext b 1) fun b=>.op (.alloc ji) fun d=>.op (.st 32 d c) fun _=>Ld 32 d fun c=>Zq v10 c b v9 v20 a)))
abbrev Zo (v20:AV) (v18:AV) (v10:AV) (v19:AV) (v9:AV) (v14:AV) (v1:AV) (x1:AV):Prog:=.op (.st 32 v20 v18) fun _=>Ld 32 v20 fun a=>Ld 32 v10 fun b=>Cl tO [a,b] fun a=>.op (.una .not a) fun a=>.gop a false (.mv v19) fun b=>.gop a false (.mv v9) fun c=>.gop a false (.bin 2 .neq b c) fun b=>Pk a (.bool true) b fun a=>.ite a (.fin [.val (.bool false)]) (Ld 32 v14 fun a=>Ld 32 v1 fun b=>Cl tN [b] fun b=>.chk (.ldn 32 v14) a (Cl tO [a,b] fun a=>.op (.una .not a) fun a=>.ite a (.fin [.val (.bool false)]) (Ld 32 v14 fun a=>Cl zX [a,.int .i64 1] fun a=>Bn .lss a (.int .i64 0) fun a=>.gop a false (.ldn 32 v20) fun b=>.gop a false (.ldn 32 v10) fun c=>.gop a false (.call tO [b,c]) fun b=>Zp a b v19 v9 v20 v1 x1 v10)))
def LW (x0 x1:AV):Prog:=.op (.box x0) fun a=>Ld 32 a fun b=>Cl Bz [b,.int .i64 1048576] fun b=>Bn .lss b (.int .i64 0) fun b=>.ite b (.fin [.val (.bool true)]) (Ld 32 a fun b=>Cl tN [b] fun b=>Cl Hw [b,x1] fun b=>.op (.ext b 0) fun c=>.op (.ext b 1) fun b=>.op (.alloc ji) fun d=>.op (.st 32 d c) fun _=>Ld 32 a fun c=>Cl tN [c] fun c=>.op (.alloc ji) fun e=>.op (.st 32 e c) fun _=>Ld 32 e fun c=>Cl Ak [c,x1] fun c=>.op (.ext c 0) fun f=>.op (.ext c 1) fun c=>.op (.alloc ji) fun i=>Zo i f d c b e a x1)
theorem ZJ (x0 x1:AV):CC Tryz.prog LX [x0,x1] (LW x0 x1):=cc Tryz.func3 [] (fun r=>if r=10 then[(0,[]),(1,[]),(2,[0]),(3,[]),(4,[])] else[])
end
theorem ZV {h:AH} {cs0:List AV} {x0:Wld} {F0:List Nat} (r0:Cel.rep h x0 cs0 F0) (k0:Cel.ok x0) {n1:Int} (k1:rng n1):aN Tryz.prog LX [.agg cs0,.int .i64 n1] h (.bool true):=by
 have l0:cs0.length=32:=Cel.len r0
 refine reader (ZJ _ _) (by simp only[old]) ?_
 unfold LW
 (repeat' first|refine vs ?_|((with_reducible refine iH ?_);refine gW (by assumption) (by rfl) ?_)|((with_reducible refine iI ?_);refine gJ bA (by assumption) (by decide) ?_)|((with_reducible refine iJ ?_);refine gX bA (by assumption) (by decide) ?_)|(refine br ?_ ?_<;>first|exact bx|intro _)|((with_reducible refine aB Bz ?_);(refine fP (aeH _ (by assumption) _ _ _ _ (dW r0 aG) aP aP) (fun _=>?_) (fun _=>?_)))|((with_reducible refine aC ?_);((first|refine ix ?_|refine ixi ?_|(refine ixg ?_;intro _ _)|(refine aL ?_;intro _ _));first|rintro _ _ _ _ _ ⟨rfl,rfl⟩ _|rintro _ _ _ _ _ ⟨_,rfl,_⟩ _|rintro _ _ _ _ _ ⟨_,_,_,_,rfl,rfl,_,_⟩ _|intro _ _ _ _ _ _ _))|(refine sx ?_;intro _ _)|((with_reducible refine aJ ?_);simp only[g0,g1,g2]))
 all_goals first|exact pb rfl|skip
 have hv:=ajm x0 n1
 obtain⟨val,hval⟩:∃ val,val=(lV x0 n1).1:=⟨_,rfl⟩
 obtain⟨bl,hbl⟩:∃ bl,bl=(lV x0 n1).2:=⟨_,rfl⟩
 rw[←hval] at hv
 refine aT (A8 x0 (by omega) _ _ _ (dW r0 aG)) ?_
 rintro _ h1 ⟨e1,cs1,W1,rfl,p1,o1⟩
 have m1:=e1.1;(try simp only[aO,aV] at m1)
 have l1:cs1.length=32:=Cel.len p1
 (repeat' first|refine vs ?_|((with_reducible refine iH ?_);refine gW (by assumption) (by rfl) ?_)|((with_reducible refine iI ?_);refine gJ bA (by assumption) (by decide) ?_)|((with_reducible refine iJ ?_);refine gX bA (by assumption) (by decide) ?_)|(refine br ?_ ?_<;>first|exact bx|intro _)|((with_reducible refine aC ?_);((first|refine ix ?_|refine ixi ?_|(refine ixg ?_;intro _ _)|(refine aL ?_;intro _ _));first|rintro _ _ _ _ _ ⟨rfl,rfl⟩ _|rintro _ _ _ _ _ ⟨_,rfl,_⟩ _|rintro _ _ _ _ _ ⟨_,_,_,_,rfl,rfl,_,_⟩ _|intro _ _ _ _ _ _ _))|(refine sx ?_;intro _ _)|((with_reducible refine aJ ?_);simp only[g0,g1,g2]))
 refine aT (aa8 k0 (by omega) (p1)) ?_
 rintro _ h2 ⟨e2,cs2,W2,rfl,p2,o2⟩
 rw[←hval] at p2
 simp only[←hbl]
 have m2:=e2.1;(try simp only[aO,aV] at m2)
 have l2:cs2.length=32:=Cel.len p2
 (repeat' first|refine vs ?_|((with_reducible refine iH ?_);refine gW (by assumption) (by rfl) ?_)|((with_reducible refine iI ?_);refine gJ bA (by assumption) (by decide) ?_)|((with_reducible refine iJ ?_);refine gX bA (by assumption) (by decide) ?_)|(refine br ?_ ?_<;>first|exact bx|intro _)|((with_reducible refine aC ?_);((first|refine ix ?_|refine ixi ?_|(refine ixg ?_;intro _ _)|(refine aL ?_;intro _ _));first|rintro _ _ _ _ _ ⟨rfl,rfl⟩ _|rintro _ _ _ _ _ ⟨_,rfl,_⟩ _|rintro _ _ _ _ _ ⟨_,_,_,_,rfl,rfl,_,_⟩ _|intro _ _ _ _ _ _ _))|(refine sx ?_;intro _ _)|((with_reducible refine aJ ?_);simp only[g0,g1,g2]))
 refine aT (A8 x0 (by omega) _ _ _ (dW r0 aG)) ?_
 rintro _ h3 ⟨e3,cs3,W3,rfl,p3,o3⟩
 have m3:=e3.1;(try simp only[aO,aV] at m3)
 have l3:cs3.length=32:=Cel.len p3
 (repeat' first|refine vs ?_|((with_reducible refine iH ?_);refine gW (by assumption) (by rfl) ?_)|((with_reducible refine iI ?_);refine gJ bA (by assumption) (by decide) ?_)|((with_reducible refine iJ ?_);refine gX bA (by assumption) (by decide) ?_)|(refine br ?_ ?_<;>first|exact bx|intro _)|((with_reducible refine aC ?_);((first|refine ix ?_|refine ixi ?_|(refine ixg ?_;intro _ _)|(refine aL ?_;intro _ _));first|rintro _ _ _ _ _ ⟨rfl,rfl⟩ _|rintro _ _ _ _ _ ⟨_,rfl,_⟩ _|rintro _ _ _ _ _ ⟨_,_,_,_,rfl,rfl,_,_⟩ _|intro _ _ _ _ _ _ _))|(refine sx ?_;intro _ _)|((with_reducible refine aJ ?_);simp only[g0,g1,g2]))
 refine aT (MG k0 (by omega) (dW p3 aG)) ?_
 rintro _ h4 ⟨e4,cs4,W4,rfl,p4,o4⟩
 rw[←hval] at p4
 simp only[←hbl]
 have m4:=e4.1;(try simp only[aO,aV] at m4)
 have l4:cs4.length=32:=Cel.len p4
 (repeat' first|refine vs ?_|((with_reducible refine iH ?_);refine gW (by assumption) (by rfl) ?_)|((with_reducible refine iI ?_);refine gJ bA (by assumption) (by decide) ?_)|((with_reducible refine iJ ?_);refine gX bA (by assumption) (by decide) ?_)|(refine br ?_ ?_<;>first|exact bx|intro _)|((with_reducible refine aC ?_);((first|refine ix ?_|refine ixi ?_|(refine ixg ?_;intro _ _)|(refine aL ?_;intro _ _));first|rintro _ _ _ _ _ ⟨rfl,rfl⟩ _|rintro _ _ _ _ _ ⟨_,rfl,_⟩ _|rintro _ _ _ _ _ ⟨_,_,_,_,rfl,rfl,_,_⟩ _|intro _ _ _ _ _ _ _))|(refine sx ?_;intro _ _)|((with_reducible refine aJ ?_);simp only[g0,g1,g2]))
 refine aQ (A9 _ _ _ _ _ _ (dW p4 aG) (dW p2 aG)) ?_
 (repeat' first|refine vs ?_|((with_reducible refine iH ?_);refine gW (by assumption) (by rfl) ?_)|((with_reducible refine iI ?_);refine gJ bA (by assumption) (by decide) ?_)|((with_reducible refine iJ ?_);refine gX bA (by assumption) (by decide) ?_)|(refine br ?_ ?_<;>first|exact bx|intro _)|((with_reducible refine aC ?_);((first|refine ix ?_|refine ixi ?_|(refine ixg ?_;intro _ _)|(refine aL ?_;intro _ _));first|rintro _ _ _ _ _ ⟨rfl,rfl⟩ _|rintro _ _ _ _ _ ⟨_,rfl,_⟩ _|rintro _ _ _ _ _ ⟨_,_,_,_,rfl,rfl,_,_⟩ _|intro _ _ _ _ _ _ _))|(refine sx ?_;intro _ _)|((with_reducible refine aJ ?_);simp only[g0,g1,g2]))
 refine aT (A8 x0 (by omega) _ _ _ (dW r0 aG)) ?_
 rintro _ h5 ⟨e5,cs5,W5,rfl,p5,o5⟩
 have m5:=e5.1;(try simp only[aO,aV] at m5)
 have l5:cs5.length=32:=Cel.len p5
 refine gX (b:=h3.n) bA l3 (by decide) ?_
 (repeat' first|refine vs ?_|((with_reducible refine iH ?_);refine gW (by assumption) (by rfl) ?_)|((with_reducible refine iI ?_);refine gJ bA (by assumption) (by decide) ?_)|((with_reducible refine iJ ?_);refine gX bA (by assumption) (by decide) ?_)|(refine br ?_ ?_<;>first|exact bx|intro _)|((with_reducible refine aC ?_);((first|refine ix ?_|refine ixi ?_|(refine ixg ?_;intro _ _)|(refine aL ?_;intro _ _));first|rintro _ _ _ _ _ ⟨rfl,rfl⟩ _|rintro _ _ _ _ _ ⟨_,rfl,_⟩ _|rintro _ _ _ _ _ ⟨_,_,_,_,rfl,rfl,_,_⟩ _|intro _ _ _ _ _ _ _))|(refine sx ?_;intro _ _)|((with_reducible refine aJ ?_);simp only[g0,g1,g2]))
 refine aQ (A9 _ _ _ _ _ _ (dW p3 aG) (dW p5 aG)) ?_
 (repeat' first|refine vs ?_|((with_reducible refine iH ?_);refine gW (by assumption) (by rfl) ?_)|((with_reducible refine iI ?_);refine gJ bA (by assumption) (by decide) ?_)|((with_reducible refine iJ ?_);refine gX bA (by assumption) (by decide) ?_)|(refine br ?_ ?_<;>first|exact bx|intro _)|((with_reducible refine aC ?_);((first|refine ix ?_|refine ixi ?_|(refine ixg ?_;intro _ _)|(refine aL ?_;intro _ _));first|rintro _ _ _ _ _ ⟨rfl,rfl⟩ _|rintro _ _ _ _ _ ⟨_,rfl,_⟩ _|rintro _ _ _ _ _ ⟨_,_,_,_,rfl,rfl,_,_⟩ _|intro _ _ _ _ _ _ _))|(refine sx ?_;intro _ _)|((with_reducible refine aJ ?_);simp only[g0,g1,g2]))
 have lt0:=Cel.lt r0
 have lt2:=Cel.lt p2
 have lt3:=Cel.lt p3
 have lt4:=Cel.lt p4
 have c6:=SA 1 x0
 have u6:=RQ 1 x0
 refine aT (Mx (x:=x0) (F:=W3) (n:=0) (dW p3 aG) ((kg aG ⟨o3,Cel.lt p3⟩).1.mono (Nat.zero_le _) fun _ _=>rfl) aP (by omega)) ?_
 rintro _ h6 ⟨rfl,y6,q6,-⟩
 have m6:=y6.1
 have Gx:∀ c∈F0,c ∉ W3:=fun c hc hc'=>by have:=lt0 c hc;have:=(o3.2 c hc').1;simp only[aO] at *;omega
 have am1:Cel.rep h6 x0 cs0 F0:=qW y6 (dW r0 aG) Gx
 have Gw:∀ c∈W2,c ∉ W3:=fun c hc hc'=>by have:=lt2 c hc;have:=(o3.2 c hc').1;simp only[aO] at *;omega
 have WT:Cel.rep h6 val cs2 W2:=qW y6 (dW p2 aG) Gw
 have amR:Bk h6 h.n cs0 0:=bR y6 bA (fun hm=>by have:=(o3.2 _ hm).1;simp only[aO] at *;omega)
 have amQ:Bk h6 h2.n cs2 0:=bR y6 bA (fun hm=>by have:=(o3.2 _ hm).1;simp only[aO] at *;omega)
 have zl:∀ c∈W4,c ∉ W3:=fun c hc hc'=>by have:=(o4.2 c hc).1;have:=lt3 c hc';simp only[aO] at *;omega
 have WQ:Cel.rep h6 val cs4 W4:=qW y6 (dW p4 aG) zl
 have VW:Own 0 h6 W4:=(bC y6 (kg aG ⟨o4,Cel.lt p4⟩) zl).1.mono (Nat.zero_le _) fun _ _=>rfl
 have amP:Bk h6 h4.n cs4 0:=bR y6 bA (fun hm=>by have:=lt3 _ hm;simp only[aO] at *;omega)
 (repeat' first|refine vs ?_|((with_reducible refine iH ?_);refine gW (by assumption) (by rfl) ?_)|((with_reducible refine iI ?_);refine gJ bA (by assumption) (by decide) ?_)|((with_reducible refine iJ ?_);refine gX bA (by assumption) (by decide) ?_)|(refine br ?_ ?_<;>first|exact bx|intro _)|((with_reducible refine aC ?_);((first|refine ix ?_|refine ixi ?_|(refine ixg ?_;intro _ _)|(refine aL ?_;intro _ _));first|rintro _ _ _ _ _ ⟨rfl,rfl⟩ _|rintro _ _ _ _ _ ⟨_,rfl,_⟩ _|rintro _ _ _ _ _ ⟨_,_,_,_,rfl,rfl,_,_⟩ _|intro _ _ _ _ _ _ _))|(refine sx ?_;intro _ _)|((with_reducible refine aJ ?_);simp only[g0,g1,g2]))
 refine aQ (A9 _ _ _ _ _ _ WQ WT) ?_
 (repeat' first|refine vs ?_|((with_reducible refine iH ?_);refine gW (by assumption) (by rfl) ?_)|((with_reducible refine iI ?_);refine gJ bA (by assumption) (by decide) ?_)|((with_reducible refine iJ ?_);refine gX bA (by assumption) (by decide) ?_)|(refine br ?_ ?_<;>first|exact bx|intro _)|((with_reducible refine aC ?_);((first|refine ix ?_|refine ixi ?_|(refine ixg ?_;intro _ _)|(refine aL ?_;intro _ _));first|rintro _ _ _ _ _ ⟨rfl,rfl⟩ _|rintro _ _ _ _ _ ⟨_,rfl,_⟩ _|rintro _ _ _ _ _ ⟨_,_,_,_,rfl,rfl,_,_⟩ _|intro _ _ _ _ _ _ _))|(refine sx ?_;intro _ _)|((with_reducible refine aJ ?_);simp only[g0,g1,g2]))
 have c7:=SA 1 val
 have u7:=RQ 1 val
 refine aT (Mx (n:=0) WQ VW aP (by omega)) ?_
 rintro _ h7 ⟨rfl,y7,q7,-⟩
 clear VW
 have m7:=y7.1
 have Gv:∀ c∈F0,c ∉ W4:=fun c hc hc'=>by have:=lt0 c hc;have:=(o4.2 c hc').1;simp only[aO] at *;omega
 have am0:Cel.rep h7 x0 cs0 F0:=qW y7 am1 Gv
 have Gu:∀ c∈W2,c ∉ W4:=fun c hc hc'=>by have:=lt2 c hc;have:=(o4.2 c hc').1;simp only[aO] at *;omega
 have amZ:Cel.rep h7 val cs2 W2:=qW y7 WT Gu
 have aoz:Bk h7 h.n cs0 0:=bR y7 amR (fun hm=>by have:=(o4.2 _ hm).1;simp only[aO] at *;omega)
 have aoy:Bk h7 h2.n cs2 0:=bR y7 amQ (fun hm=>by have:=(o4.2 _ hm).1;simp only[aO] at *;omega)
 have aox:Bk h7 h4.n cs4 0:=bR y7 amP (fun hm=>by have:=lt4 _ hm;omega)
 (repeat' first|refine vs ?_|((with_reducible refine iH ?_);refine gW (by assumption) (by rfl) ?_)|((with_reducible refine iI ?_);refine gJ bA (by assumption) (by decide) ?_)|((with_reducible refine iJ ?_);refine gX bA (by assumption) (by decide) ?_)|(refine br ?_ ?_<;>first|exact bx|intro _)|((with_reducible refine aC ?_);((first|refine ix ?_|refine ixi ?_|(refine ixg ?_;intro _ _)|(refine aL ?_;intro _ _));first|rintro _ _ _ _ _ ⟨rfl,rfl⟩ _|rintro _ _ _ _ _ ⟨_,rfl,_⟩ _|rintro _ _ _ _ _ ⟨_,_,_,_,rfl,rfl,_,_⟩ _|intro _ _ _ _ _ _ _))|(refine sx ?_;intro _ _)|((with_reducible refine aJ ?_);simp only[g0,g1,g2]))
 refine aQ (MB (x:=val) (m:=1) q7 aP (by omega)) ?_
 (repeat' first|refine vs ?_|((with_reducible refine iH ?_);refine gW (by assumption) (by rfl) ?_)|((with_reducible refine iI ?_);refine gJ bA (by assumption) (by decide) ?_)|((with_reducible refine iJ ?_);refine gX bA (by assumption) (by decide) ?_)|(refine br ?_ ?_<;>first|exact bx|intro _)|((with_reducible refine aC ?_);((first|refine ix ?_|refine ixi ?_|(refine ixg ?_;intro _ _)|(refine aL ?_;intro _ _));first|rintro _ _ _ _ _ ⟨rfl,rfl⟩ _|rintro _ _ _ _ _ ⟨_,rfl,_⟩ _|rintro _ _ _ _ _ ⟨_,_,_,_,rfl,rfl,_,_⟩ _|intro _ _ _ _ _ _ _))|(refine sx ?_;intro _ _)|((with_reducible refine aJ ?_);simp only[g0,g1,g2]))
 refine aT (A8 x0 (by omega) _ _ _ (dW am0 aG)) ?_
 rintro _ h8 ⟨e8,cs8,W8,rfl,p8,o8⟩
 have m8:=e8.1;(try simp only[aO,aV] at m8)
 have l8:cs8.length=32:=Cel.len p8
 (repeat' first|refine vs ?_|((with_reducible refine iH ?_);refine gW (by assumption) (by rfl) ?_)|((with_reducible refine iI ?_);refine gJ bA (by assumption) (by decide) ?_)|((with_reducible refine iJ ?_);refine gX bA (by assumption) (by decide) ?_)|(refine br ?_ ?_<;>first|exact bx|intro _)|((with_reducible refine aC ?_);((first|refine ix ?_|refine ixi ?_|(refine ixg ?_;intro _ _)|(refine aL ?_;intro _ _));first|rintro _ _ _ _ _ ⟨rfl,rfl⟩ _|rintro _ _ _ _ _ ⟨_,rfl,_⟩ _|rintro _ _ _ _ _ ⟨_,_,_,_,rfl,rfl,_,_⟩ _|intro _ _ _ _ _ _ _))|(refine sx ?_;intro _ _)|((with_reducible refine aJ ?_);simp only[g0,g1,g2]))
 refine aT (MG k0 (by omega) (p8)) ?_
 rintro _ h9 ⟨e9,cs9,W9,rfl,p9,o9⟩
 rw[←hval] at p9
 simp only[←hbl]
 have m9:=e9.1;(try simp only[aO,aV] at m9)
 have l9:cs9.length=32:=Cel.len p9
 (repeat' first|refine vs ?_|((with_reducible refine iH ?_);refine gW (by assumption) (by rfl) ?_)|((with_reducible refine iI ?_);refine gJ bA (by assumption) (by decide) ?_)|((with_reducible refine iJ ?_);refine gX bA (by assumption) (by decide) ?_)|(refine br ?_ ?_<;>first|exact bx|intro _)|((with_reducible refine aC ?_);((first|refine ix ?_|refine ixi ?_|(refine ixg ?_;intro _ _)|(refine aL ?_;intro _ _));first|rintro _ _ _ _ _ ⟨rfl,rfl⟩ _|rintro _ _ _ _ _ ⟨_,rfl,_⟩ _|rintro _ _ _ _ _ ⟨_,_,_,_,rfl,rfl,_,_⟩ _|intro _ _ _ _ _ _ _))|(refine sx ?_;intro _ _)|((with_reducible refine aJ ?_);simp only[g0,g1,g2]))
 refine aQ (A9 _ _ _ _ _ _ (dW p9 aG) (dW amZ aG)) ?_
 (repeat' first|refine vs ?_|((with_reducible refine iH ?_);refine gW (by assumption) (by rfl) ?_)|((with_reducible refine iI ?_);refine gJ bA (by assumption) (by decide) ?_)|((with_reducible refine iJ ?_);refine gX bA (by assumption) (by decide) ?_)|(refine br ?_ ?_<;>first|exact bx|intro _)|((with_reducible refine aC ?_);((first|refine ix ?_|refine ixi ?_|(refine ixg ?_;intro _ _)|(refine aL ?_;intro _ _));first|rintro _ _ _ _ _ ⟨rfl,rfl⟩ _|rintro _ _ _ _ _ ⟨_,rfl,_⟩ _|rintro _ _ _ _ _ ⟨_,_,_,_,rfl,rfl,_,_⟩ _|intro _ _ _ _ _ _ _))|(refine sx ?_;intro _ _)|((with_reducible refine aJ ?_);simp only[g0,g1,g2]))
 refine aQ (MB (x:=val) (m:=1) (dW q7 aG) aP (by omega)) ?_
 (repeat' first|refine vs ?_|((with_reducible refine iH ?_);refine gW (by assumption) (by rfl) ?_)|((with_reducible refine iI ?_);refine gJ bA (by assumption) (by decide) ?_)|((with_reducible refine iJ ?_);refine gX bA (by assumption) (by decide) ?_)|(refine br ?_ ?_<;>first|exact bx|intro _)|((with_reducible refine aC ?_);((first|refine ix ?_|refine ixi ?_|(refine ixg ?_;intro _ _)|(refine aL ?_;intro _ _));first|rintro _ _ _ _ _ ⟨rfl,rfl⟩ _|rintro _ _ _ _ _ ⟨_,rfl,_⟩ _|rintro _ _ _ _ _ ⟨_,_,_,_,rfl,rfl,_,_⟩ _|intro _ _ _ _ _ _ _))|(refine sx ?_;intro _ _)|((with_reducible refine aJ ?_);simp only[g0,g1,g2]))
 exact pb rfl
end Go.Proofs.YtekfdoknfcedpaaGreat
