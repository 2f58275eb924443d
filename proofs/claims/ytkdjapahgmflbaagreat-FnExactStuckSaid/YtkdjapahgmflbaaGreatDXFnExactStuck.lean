import Derived.Test.YtkdjapahgmflbaaGreatDW129
import Derived.Test.YtkdjapahgmflbaaGreatDLWorld
set_option linter.unusedSimpArgs false
set_option linter.unusedVariables false
set_option maxHeartbeats 4000000
namespace Go.Proofs.YtkdjapahgmflbaaGreat
open Go Go.Ab
section
def ape (x0:AV):Prog:=.op (.box x0) fun a=>Ld 32 a fun b=>Cl Ev [b,.int .i64 1048576] fun b=>Bn .lss b (.int .i64 0) fun b=>.ite b (.fin [.val (.bool true)]) (Ld 32 a fun b=>Cl Ag [b] fun b=>Cl apa [b] fun b=>Ld 32 a fun c=>Cl Ag [c] fun c=>.op (.alloc jE) fun d=>.op (.st 32 d c) fun _=>Ld 32 d fun c=>Cl apb [c] fun c=>.op (.bin 2 .neq c b) fun b=>.ite b (.fin [.val (.bool false)]) (Ld 32 d fun b=>Ld 32 a fun a=>Cl Ag [a] fun a=>.chk (.ldn 32 d) b (Cl Kk [b,a] fun a=>.op (.una .not a) fun a=>.ite a (.fin [.val (.bool false)]) (.fin [.val (.bool true)]))))
theorem apn (x0:AV):CC Tryz.prog apf [x0] (ape x0):=cc Tryz.func5 [] (fun r=>if r=10 then[(0,[]),(1,[]),(2,[0]),(3,[]),(4,[])] else[])
end
theorem apo {h:AH} {cs0:List AV} {x0:Wld} {F0:List Nat} (r0:Cel.rep h x0 cs0 F0) (k0:Cel.ok x0):aM Tryz.prog apf [.agg cs0] h (.bool true):=by
 have l0:cs0.length=32:=Cel.len r0
 refine reader (apn _) (by simp only[old]) ?_
 unfold ape
 (repeat' first|refine vs ?_|((with_reducible refine Ck ?_);refine yS (by assumption) (by rfl) ?_)|((with_reducible refine zf ?_);refine tT aV (by assumption) (by decide) ?_)|((with_reducible refine YZ ?_);refine MR aV (by assumption) (by decide) ?_)|(refine br ?_ ?_<;>first|exact bx|intro _)|((with_reducible refine aA Ev ?_);(refine jd (aed _ (by assumption) _ _ _ _ (iW r0 aD) aO aO) (fun _=>?_) (fun _=>?_)))|((with_reducible refine aY ?_);((first|refine ix ?_|refine ixi ?_|(refine ixg ?_;intro _ _)|(refine ku ?_;intro _ _));first|rintro _ _ _ _ _ ⟨rfl,rfl⟩ _|rintro _ _ _ _ _ ⟨_,rfl,_⟩ _|rintro _ _ _ _ _ ⟨_,_,_,_,rfl,rfl,_,_⟩ _|intro _ _ _ _ _ _ _))|(refine sx ?_;intro _ _)|refine gS ?_|fail)
 all_goals first|exact pb rfl|skip
 obtain⟨bl,hbl⟩:∃ bl:Bool,bl=bp (apd x0):=⟨_,rfl⟩
 refine aK (J2 x0 (by omega) _ _ _ (iW r0 aD)) ?_
 rintro _ h1 ⟨e1,cs1,W1,rfl,p1,o1⟩
 have m1:=e1.1;(try simp only[aH,aN] at m1)
 have l1:cs1.length=32:=Cel.len p1
 (repeat' first|refine vs ?_|((with_reducible refine Ck ?_);refine yS (by assumption) (by rfl) ?_)|((with_reducible refine zf ?_);refine tT aV (by assumption) (by decide) ?_)|((with_reducible refine YZ ?_);refine MR aV (by assumption) (by decide) ?_)|(refine br ?_ ?_<;>first|exact bx|intro _)|((with_reducible refine aY ?_);((first|refine ix ?_|refine ixi ?_|(refine ixg ?_;intro _ _)|(refine ku ?_;intro _ _));first|rintro _ _ _ _ _ ⟨rfl,rfl⟩ _|rintro _ _ _ _ _ ⟨_,rfl,_⟩ _|rintro _ _ _ _ _ ⟨_,_,_,_,rfl,rfl,_,_⟩ _|intro _ _ _ _ _ _ _))|(refine sx ?_;intro _ _)|refine gS ?_|fail)
 refine aJ (apq k0 (by omega) (iW p1 aD)) ?_
 rw[←hbl]
 (repeat' first|refine vs ?_|((with_reducible refine Ck ?_);refine yS (by assumption) (by rfl) ?_)|((with_reducible refine zf ?_);refine tT aV (by assumption) (by decide) ?_)|((with_reducible refine YZ ?_);refine MR aV (by assumption) (by decide) ?_)|(refine br ?_ ?_<;>first|exact bx|intro _)|((with_reducible refine aY ?_);((first|refine ix ?_|refine ixi ?_|(refine ixg ?_;intro _ _)|(refine ku ?_;intro _ _));first|rintro _ _ _ _ _ ⟨rfl,rfl⟩ _|rintro _ _ _ _ _ ⟨_,rfl,_⟩ _|rintro _ _ _ _ _ ⟨_,_,_,_,rfl,rfl,_,_⟩ _|intro _ _ _ _ _ _ _))|(refine sx ?_;intro _ _)|refine gS ?_|fail)
 refine aK (J2 x0 (by omega) _ _ _ (iW r0 aD)) ?_
 rintro _ h2 ⟨e2,cs2,W2,rfl,p2,o2⟩
 have m2:=e2.1;(try simp only[aH,aN] at m2)
 have l2:cs2.length=32:=Cel.len p2
 (repeat' first|refine vs ?_|((with_reducible refine Ck ?_);refine yS (by assumption) (by rfl) ?_)|((with_reducible refine zf ?_);refine tT aV (by assumption) (by decide) ?_)|((with_reducible refine YZ ?_);refine MR aV (by assumption) (by decide) ?_)|(refine br ?_ ?_<;>first|exact bx|intro _)|((with_reducible refine aY ?_);((first|refine ix ?_|refine ixi ?_|(refine ixg ?_;intro _ _)|(refine ku ?_;intro _ _));first|rintro _ _ _ _ _ ⟨rfl,rfl⟩ _|rintro _ _ _ _ _ ⟨_,rfl,_⟩ _|rintro _ _ _ _ _ ⟨_,_,_,_,rfl,rfl,_,_⟩ _|intro _ _ _ _ _ _ _))|(refine sx ?_;intro _ _)|refine gS ?_|fail)
 refine aJ (apr k0 (by omega) (iW p2 aD)) ?_
 rw[←hbl]
 (repeat' first|refine vs ?_|((with_reducible refine Ck ?_);refine yS (by assumption) (by rfl) ?_)|((with_reducible refine zf ?_);refine tT aV (by assumption) (by decide) ?_)|((with_reducible refine YZ ?_);refine MR aV (by assumption) (by decide) ?_)|(refine br ?_ ?_<;>first|exact bx|intro _)|((with_reducible refine aY ?_);((first|refine ix ?_|refine ixi ?_|(refine ixg ?_;intro _ _)|(refine ku ?_;intro _ _));first|rintro _ _ _ _ _ ⟨rfl,rfl⟩ _|rintro _ _ _ _ _ ⟨_,rfl,_⟩ _|rintro _ _ _ _ _ ⟨_,_,_,_,rfl,rfl,_,_⟩ _|intro _ _ _ _ _ _ _))|(refine sx ?_;intro _ _)|refine gS ?_|fail)
 refine aK (J2 x0 (by omega) _ _ _ (iW r0 aD)) ?_
 rintro _ h3 ⟨e3,cs3,W3,rfl,p3,o3⟩
 have m3:=e3.1;(try simp only[aH,aN] at m3)
 have l3:cs3.length=32:=Cel.len p3
 refine MR (b:=h2.n) aV l2 (by decide) ?_
 (repeat' first|refine vs ?_|((with_reducible refine Ck ?_);refine yS (by assumption) (by rfl) ?_)|((with_reducible refine zf ?_);refine tT aV (by assumption) (by decide) ?_)|((with_reducible refine YZ ?_);refine MR aV (by assumption) (by decide) ?_)|(refine br ?_ ?_<;>first|exact bx|intro _)|((with_reducible refine aY ?_);((first|refine ix ?_|refine ixi ?_|(refine ixg ?_;intro _ _)|(refine ku ?_;intro _ _));first|rintro _ _ _ _ _ ⟨rfl,rfl⟩ _|rintro _ _ _ _ _ ⟨_,rfl,_⟩ _|rintro _ _ _ _ _ ⟨_,_,_,_,rfl,rfl,_,_⟩ _|intro _ _ _ _ _ _ _))|(refine sx ?_;intro _ _)|refine gS ?_|fail)
 refine aJ (aek _ _ _ _ _ _ (iW p2 aD) (iW p3 aD)) ?_
 (repeat' first|refine vs ?_|((with_reducible refine Ck ?_);refine yS (by assumption) (by rfl) ?_)|((with_reducible refine zf ?_);refine tT aV (by assumption) (by decide) ?_)|((with_reducible refine YZ ?_);refine MR aV (by assumption) (by decide) ?_)|(refine br ?_ ?_<;>first|exact bx|intro _)|((with_reducible refine aY ?_);((first|refine ix ?_|refine ixi ?_|(refine ixg ?_;intro _ _)|(refine ku ?_;intro _ _));first|rintro _ _ _ _ _ ⟨rfl,rfl⟩ _|rintro _ _ _ _ _ ⟨_,rfl,_⟩ _|rintro _ _ _ _ _ ⟨_,_,_,_,rfl,rfl,_,_⟩ _|intro _ _ _ _ _ _ _))|(refine sx ?_;intro _ _)|refine gS ?_|fail)
 exact pb rfl
end Go.Proofs.YtkdjapahgmflbaaGreat
