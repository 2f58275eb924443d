import Derived.Test.YtkdjapahgmflbaaGreatDW128
import Derived.Test.YtkdjapahgmflbaaGreatDKW2
set_option linter.unusedSimpArgs false
set_option linter.unusedVariables false
set_option maxHeartbeats 4000000
namespace Go.Proofs.YtkdjapahgmflbaaGreat
open Go Go.Ab
section
def UR (x0 x1:AV):Prog:=.op (.box x0) fun a=>Ld 32 a fun a=>Cl Lc [a,x1] fun a=>.op (.ext a 0) fun b=>.op (.ext a 1) fun a=>.op (.alloc jE) fun c=>.op (.st 32 c b) fun _=>.fin [.val a]
theorem ai0 (x0 x1:AV):CC Tryz.prog Le [x0,x1] (UR x0 x1):=cc Tryz.func19
def UM (x0 x1:AV):Prog:=.op (.box x0) fun a=>Ld 32 a fun a=>Cl K9 [a,x1] fun a=>.op (.ext a 0) fun b=>.op (.ext a 1) fun a=>.op (.alloc jE) fun c=>.op (.st 32 c b) fun _=>.fin [.val a]
theorem aiW (x0 x1:AV):CC Tryz.prog La [x0,x1] (UM x0 x1):=cc Tryz.func18
end
theorem aiO {h:AH} {x:Wld} {cs:List AV} {F:List Nat} {k:Int} (ok:Cel.ok x) (hs:Sz.sz x≤33554432) (r:Cel.rep h x cs F):aM Tryz.prog Le [.agg cs,.int .i64 k] h (.bool (mq x k).2):=by
 obtain⟨v0,v1,v2,v3,v4,v5,v6,v7,v8,v9,v10,F0,F1,F2,F3,F4,F5,F6,F7,F8,F9,F10,rfl,rfl,r0,r1,r2,r3,r4,r5,r6,r7,r8,r9,r10⟩:=r
 refine reader (ai0 _ _) (by simp only[old]) ?_
 unfold UR
 (repeat' first|refine vs ?_|fail)
 refine aK (aiN (x:=x) ok hs ⟨_,_,_,_,_,_,_,_,_,_,_,_,_,_,_,_,_,_,_,_,_,_,rfl,rfl,ah,ah,ah,ah,ah,ah,ah,ah,ah,ah,ah⟩) ?_
 rintro _ h1 ⟨e1,cs1,W1,rfl,p1,o1⟩
 have l1:cs1.length=32:=Cel.len p1
 (repeat' first|refine vs ?_|((with_reducible refine Ck ?_);refine yS (by assumption) (by rfl) ?_)|fail)
 exact pb rfl
theorem aiK {h:AH} {x:Wld} {cs:List AV} {F:List Nat} {k:Int} (ok:Cel.ok x) (hs:Sz.sz x≤33554432) (r:Cel.rep h x cs F):aM Tryz.prog La [.agg cs,.int .i64 k] h (.bool (mq x k).2):=by
 obtain⟨v0,v1,v2,v3,v4,v5,v6,v7,v8,v9,v10,F0,F1,F2,F3,F4,F5,F6,F7,F8,F9,F10,rfl,rfl,r0,r1,r2,r3,r4,r5,r6,r7,r8,r9,r10⟩:=r
 refine reader (aiW _ _) (by simp only[old]) ?_
 unfold UM
 (repeat' first|refine vs ?_|fail)
 refine aK (aiJ (x:=x) ok hs ⟨_,_,_,_,_,_,_,_,_,_,_,_,_,_,_,_,_,_,_,_,_,_,rfl,rfl,ah,ah,ah,ah,ah,ah,ah,ah,ah,ah,ah⟩) ?_
 rintro _ h1 ⟨e1,cs1,W1,rfl,p1,o1⟩
 have l1:cs1.length=32:=Cel.len p1
 (repeat' first|refine vs ?_|((with_reducible refine Ck ?_);refine yS (by assumption) (by rfl) ?_)|fail)
 exact pb rfl
end Go.Proofs.YtkdjapahgmflbaaGreat
