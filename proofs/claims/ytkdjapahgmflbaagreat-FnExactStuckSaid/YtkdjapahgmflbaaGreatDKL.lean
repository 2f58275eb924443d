import Derived.Test.YtkdjapahgmflbaaGreatDNm
import Derived.Test.YtkdjapahgmflbaaGreatDK4
import Derived.Test.YtkdjapahgmflbaaGreatDKW1
set_option linter.unusedSimpArgs false
set_option linter.unusedVariables false
section
set_option maxHeartbeats 1000000
namespace Go.Proofs.YtkdjapahgmflbaaGreat
open Go Go.Ab
section
def Tk (x0:AV):Prog:=.op (.box x0) fun a=>.op (.alloc [.str ⟨#[]⟩,.bool false,.int .i64 0,.str ⟨#[]⟩]) fun b=>.op (.alloc [.str ⟨#[]⟩,.bool false,.int .i64 0,.str ⟨#[]⟩]) fun c=>Lg 0 a fun d=>Sg 0 c d fun _=>Lg 1 a fun d=>Sg 1 c d fun _=>Lg 2 a fun d=>Sg 2 c d fun _=>Lg 3 a fun a=>Sg 3 c a fun _=>Ld 4 c fun a=>.op (.st 4 b a) fun _=>.fin [.cn 4 b]
theorem ahq (x0:AV):CC Tryz.prog KL [x0] (Tk x0):=cc Tryz.func399
def TD (x0 x1:AV):Prog:=.op (.box x0) fun a=>.op (.box x1) fun b=>Lg 0 a fun c=>Lg 0 b fun d=>.op (.bin 1 .neq c d) fun c=>.ite c (.fin [.val (.bool false)]) (Lg 1 a fun c=>Lg 1 b fun d=>.op (.bin 2 .neq c d) fun c=>.ite c (.fin [.val (.bool false)]) (Lg 2 a fun c=>Lg 2 b fun d=>Bn .neq c d fun c=>.ite c (.fin [.val (.bool false)]) (Lg 3 a fun a=>Lg 3 b fun b=>.op (.bin 1 .neq a b) fun a=>.ite a (.fin [.val (.bool false)]) (.fin [.val (.bool true)]))))
theorem ahE (x0 x1:AV):CC Tryz.prog KT [x0,x1] (TD x0 x1):=cc Tryz.func401
def Tv (x0 x1:AV):Prog:=.op (.box x0) fun a=>Lg 0 a fun b=>Ln 1 b fun b=>Bn .sub x1 b fun b=>Bn .lss b (.int .i64 0) fun c=>.ite c (.fin [.val (.int .i64 (-1))]) (Lg 3 a fun a=>Ln 1 a fun a=>Bn .sub b a fun a=>Bn .lss a (.int .i64 0) fun b=>.ite b (.fin [.val (.int .i64 (-1))]) (.fin [.val a]))
theorem ahx (x0 x1:AV):CC Tryz.prog KP [x0,x1] (Tv x0 x1):=cc Tryz.func395
def aeK (x0:AV):Prog:=Ln 0 x0 fun a=>.op (.iw 4 48 [.str ⟨#[]⟩,.bool false,.int .i64 0,.str ⟨#[]⟩] a a) fun a=>.loop [.int .i64 0] (fun b=>Ln 0 x0 fun c=>Bn .lss (g b 0) c fun c=>.ite c (Ix 4 x0 (g b 0) fun c=>Ld 4 c fun c=>Cl KL [c] fun c=>Ix 4 a (g b 0) fun a=>.op (.st 4 a c) fun _=>Bn .add (g b 0) (.int .i64 1) fun a=>.leaf 0 [a]) (.leaf 2 [g b 0])) fun b c=>aB b 1 (.leaf 1 c) (aB b 2 (.fin [.val a]) .bad)
theorem aft (x0:AV):CC Tryz.prog Eu [x0] (aeK x0):=cc Tryz.func351 [0,3,4] (fun _=>[])
def aeU (x0 x1:AV):Prog:=Ln 0 x0 fun a=>Ln 0 x1 fun b=>Bn .neq a b fun a=>.ite a (.fin [.val (.bool false)]) (.loop [.int .i64 0] (fun a=>Ln 0 x0 fun b=>Bn .lss (g a 0) b fun b=>.ite b (Ix 4 x0 (g a 0) fun b=>Ld 4 b fun b=>Ix 4 x1 (g a 0) fun c=>Ld 4 c fun c=>Cl KT [b,c] fun b=>.op (.una .not b) fun b=>.ite b (.fin [.val (.bool false)]) (Bn .add (g a 0) (.int .i64 1) fun a=>.leaf 0 [a])) (.leaf 2 [g a 0])) fun a b=>aB a 1 (.leaf 1 b) (aB a 2 (.fin [.val (.bool true)]) .bad))
theorem afK (x0 x1:AV):CC Tryz.prog EH [x0,x1] (aeU x0 x1):=cc Tryz.func353 [0,1,5] (fun r=>if r=6 then[(0,[]),(1,[]),(2,[]),(3,[]),(4,[]),(5,[]),(6,[]),(7,[]),(8,[]),(9,[])] else[])
def aeP (x0 x1:AV):Prog:=Ln 0 x0 fun a=>Bn .sub x1 a fun a=>Bn .lss a (.int .i64 0) fun b=>.ite b (.fin [.val (.int .i64 (-1))]) (.loop [a,.int .i64 0] (fun a=>Ln 0 x0 fun b=>Bn .lss (g a 1) b fun b=>.ite b (Ix 4 x0 (g a 1) fun b=>Ld 4 b fun b=>Cl KP [b,g a 0] fun b=>Bn .lss b (.int .i64 0) fun c=>.ite c (.fin [.val (.int .i64 (-1))]) (Bn .add (g a 1) (.int .i64 1) fun a=>.leaf 0 [b,a])) (.leaf 2 [g a 0,g a 1])) fun a b=>aB a 1 (.leaf 1 b) (aB a 2 (.fin [.val (g b 0)]) .bad))
theorem afB (x0 x1:AV):CC Tryz.prog EB [x0,x1] (aeP x0 x1):=cc Tryz.func342 [0,1,5] (fun _=>[])
end
theorem agu (x:Attr) (hs:Sz.sz x≤1048576):dO Attr Tryz.prog KL x:=by
 rintro cs F h ⟨rfl,rfl⟩
 have hs:x.key.size+x.text.size≤1048576:=hs
 refine ahq _ ?_
 unfold Tk
 (repeat' first|refine vs ?_|fail)
 exact⟨rfl,_,rfl,aD,_,_,rfl,⟨rfl,rfl⟩,Own.nil⟩
theorem agE:EqC Attr Tryz.prog KT:=by
 rintro x cs cs' F F' h ⟨rfl,rfl⟩ ⟨rfl,rfl⟩
 refine reader (ahE _ _) (by simp only[old]) ?_
 unfold TD
 (repeat' first|refine vs ?_|fail)
 exact pb rfl
theorem agz:SzC Attr Tryz.prog KP:=by
 rintro x ok cs F b h ⟨rfl,rfl⟩ h0 h1
 obtain⟨Yp,anv,XB⟩:=ok
 have Yp:x.key.size≤9223372036854775807:=Yp
 have XB:x.text.size≤9223372036854775807:=XB
 have hS:Sz.sz x=x.key.size+x.text.size:=rfl
 refine reader (ahx _ _) (by simp only[old]) ?_
 unfold Tv
 (repeat' first|refine vs ?_|(refine br ?_ ?_<;>first|exact bx|intro _)|fail)
 all_goals(refine pi ?_;unfold szr;split<;>omega)
theorem aec (xs:List Attr) (hs:xs.length+szs xs≤1048576):gG Tryz.prog Eu xs:=qw rfl rfl (by decide) hs (fun x hx=>agu x hx) (fun g=>aft _ g)
theorem aes:EqS Attr Tryz.prog EH:=fun xs v v' F F' h r r'=>reader (afK _ _) (by simp only[old]) (qp rfl agE r r')
theorem aej:SzL Attr Tryz.prog EB:=fun xs ok v F b h r h0 h1=>reader (afB _ _) (by simp only[old]) (vI rfl agz ok r h0 h1)
end Go.Proofs.YtkdjapahgmflbaaGreat
end
section
set_option maxHeartbeats 1000000
namespace Go.Proofs.YtkdjapahgmflbaaGreat
open Go Go.Ab
section
def Tf (x0:AV):Prog:=.op (.box x0) fun a=>.op (.alloc iZ) fun b=>.op (.alloc iZ) fun c=>Lg 0 a fun d=>Sg 0 c d fun _=>Lg 1 a fun d=>Sg 1 c d fun _=>Lg 2 a fun d=>Sg 2 c d fun _=>Lg 3 a fun d=>Sg 3 c d fun _=>Lg 4 a fun d=>Sg 4 c d fun _=>Lg 5 a fun a=>Cl Eu [a] fun a=>Sg 5 c a fun _=>Ld 6 c fun a=>.op (.st 6 b a) fun _=>.fin [.cn 6 b]
theorem ahl (x0:AV):CC Tryz.prog pY [x0] (Tf x0):=cc Tryz.func275
def Tx (x0 x1:AV):Prog:=.op (.box x0) fun a=>.op (.box x1) fun b=>Lg 0 a fun c=>Lg 0 b fun d=>Bn .neq c d fun c=>.ite c (.fin [.val (.bool false)]) (Lg 1 a fun c=>Lg 1 b fun d=>Bn .neq c d fun c=>.ite c (.fin [.val (.bool false)]) (Lg 2 a fun c=>Lg 2 b fun d=>Bn .neq c d fun c=>.ite c (.fin [.val (.bool false)]) (Lg 3 a fun c=>Lg 3 b fun d=>Bn .neq c d fun c=>.ite c (.fin [.val (.bool false)]) (Lg 4 a fun c=>Lg 4 b fun d=>.op (.bin 2 .neq c d) fun c=>.ite c (.fin [.val (.bool false)]) (Lg 5 a fun a=>Lg 5 b fun b=>Cl EH [a,b] fun a=>.op (.una .not a) fun a=>.ite a (.fin [.val (.bool false)]) (.fin [.val (.bool true)]))))))
theorem ahz (x0 x1:AV):CC Tryz.prog qc [x0,x1] (Tx x0 x1):=cc Tryz.func281
def Tn (x0 x1:AV):Prog:=.op (.box x0) fun a=>Lg 5 a fun a=>Cl EB [a,x1] fun a=>Bn .lss a (.int .i64 0) fun b=>.ite b (.fin [.val (.int .i64 (-1))]) (.fin [.val a])
theorem ahs (x0 x1:AV):CC Tryz.prog qb [x0,x1] (Tn x0 x1):=cc Tryz.func256
def aeH (x0:AV):Prog:=Ln 0 x0 fun a=>.op (.iw 6 64 iZ a a) fun a=>.loop [.int .i64 0] (fun b=>Ln 0 x0 fun c=>Bn .lss (g b 0) c fun c=>.ite c (Ix 6 x0 (g b 0) fun c=>Ld 6 c fun c=>Cl pY [c] fun c=>Ix 6 a (g b 0) fun a=>.op (.st 6 a c) fun _=>Bn .add (g b 0) (.int .i64 1) fun a=>.leaf 0 [a]) (.leaf 2 [g b 0])) fun b c=>aB b 1 (.leaf 1 c) (aB b 2 (.fin [.val a]) .bad)
theorem afq (x0:AV):CC Tryz.prog Es [x0] (aeH x0):=cc Tryz.func398 [0,3,4] (fun _=>[])
def aeR (x0 x1:AV):Prog:=Ln 0 x0 fun a=>Ln 0 x1 fun b=>Bn .neq a b fun a=>.ite a (.fin [.val (.bool false)]) (.loop [.int .i64 0] (fun a=>Ln 0 x0 fun b=>Bn .lss (g a 0) b fun b=>.ite b (Ix 6 x0 (g a 0) fun b=>Ld 6 b fun b=>Ix 6 x1 (g a 0) fun c=>Ld 6 c fun c=>Cl qc [b,c] fun b=>.op (.una .not b) fun b=>.ite b (.fin [.val (.bool false)]) (Bn .add (g a 0) (.int .i64 1) fun a=>.leaf 0 [a])) (.leaf 2 [g a 0])) fun a b=>aB a 1 (.leaf 1 b) (aB a 2 (.fin [.val (.bool true)]) .bad))
theorem afH (x0 x1:AV):CC Tryz.prog EF [x0,x1] (aeR x0 x1):=cc Tryz.func400 [0,1,5] (fun r=>if r=6 then[(0,[]),(1,[]),(2,[]),(3,[]),(4,[]),(5,[]),(6,[]),(7,[]),(8,[]),(9,[])] else[])
def aeM (x0 x1:AV):Prog:=Ln 0 x0 fun a=>Bn .sub x1 a fun a=>Bn .lss a (.int .i64 0) fun b=>.ite b (.fin [.val (.int .i64 (-1))]) (.loop [a,.int .i64 0] (fun a=>Ln 0 x0 fun b=>Bn .lss (g a 1) b fun b=>.ite b (Ix 6 x0 (g a 1) fun b=>Ld 6 b fun b=>Cl qb [b,g a 0] fun b=>Bn .lss b (.int .i64 0) fun c=>.ite c (.fin [.val (.int .i64 (-1))]) (Bn .add (g a 1) (.int .i64 1) fun a=>.leaf 0 [b,a])) (.leaf 2 [g a 0,g a 1])) fun a b=>aB a 1 (.leaf 1 b) (aB a 2 (.fin [.val (g b 0)]) .bad))
theorem afy (x0 x1:AV):CC Tryz.prog Ez [x0,x1] (aeM x0 x1):=cc Tryz.func394 [0,1,5] (fun _=>[])
end
theorem ES (x:Span) (hs:Sz.sz x≤1048576):dO Span Tryz.prog pY x:=by
 rintro cs F h ⟨v0,rfl,r0⟩
 have hs:(x.attrs.length+szs x.attrs)≤1048576:=hs
 refine ahl _ ?_
 unfold Tf
 (repeat' first|refine vs ?_|((with_reducible refine aA Eu ?_);(refine aK (mW aec ah aO) ?_;rintro _ _ ⟨e_,_,_,_⟩;have n_:=e_.1;(try simp only[aH,aN] at n_)))|fail)
 exact⟨rfl,_,rfl,aD,_,_,rfl,⟨_,rfl,ah⟩,bA⟩
theorem EU:EqC Span Tryz.prog qc:=by
 rintro x cs cs' F F' h ⟨v0,rfl,r0⟩ ⟨u0,rfl,q0⟩
 refine reader (ahz _ _) (by simp only[old]) ?_
 unfold Tx
 (repeat' first|refine vs ?_|((with_reducible refine aA EH ?_);refine aJ (aes _ _ _ _ _ _ ah ah) ?_)|fail)
 exact pb rfl
theorem ET:SzC Span Tryz.prog qb:=by
 rintro x ok cs F b h ⟨v0,rfl,r0⟩ h0 h1
 obtain⟨Gl,amO,aod,aou,aoh⟩:=ok
 have hS:Sz.sz x=(x.attrs.length+szs x.attrs):=rfl
 refine reader (ahs _ _) (by simp only[old]) ?_
 unfold Tn
 (repeat' first|refine vs ?_|(refine br ?_ ?_<;>first|exact bo|intro _)|((with_reducible refine aA EB ?_);(refine jd (szl aej ah (by assumption) aO aO) (fun _=>?_) (fun _=>?_)))|fail)
 all_goals(refine pi ?_;unfold szr;split<;>omega)
theorem aea (xs:List Span) (hs:xs.length+szs xs≤1048576):gG Tryz.prog Es xs:=qw rfl rfl (by decide) hs (fun x hx=>ES x hx) (fun g=>afq _ g)
theorem aep:EqS Span Tryz.prog EF:=fun xs v v' F F' h r r'=>reader (afH _ _) (by simp only[old]) (qp rfl EU r r')
theorem aeh:SzL Span Tryz.prog Ez:=fun xs ok v F b h r h0 h1=>reader (afy _ _) (by simp only[old]) (vI rfl ET ok r h0 h1)
end Go.Proofs.YtkdjapahgmflbaaGreat
end
section
set_option maxHeartbeats 1000000
namespace Go.Proofs.YtkdjapahgmflbaaGreat
open Go Go.Ab
section
def Rv (x0:AV):Prog:=.op (.box x0) fun a=>.op (.alloc [.int .i64 0,.int .i64 0,.int .i64 0,.aC]) fun b=>.op (.alloc [.int .i64 0,.int .i64 0,.int .i64 0,.aC]) fun c=>Lg 0 a fun d=>Sg 0 c d fun _=>Lg 1 a fun d=>Sg 1 c d fun _=>Lg 2 a fun d=>Sg 2 c d fun _=>Lg 3 a fun a=>Cl Es [a] fun a=>Sg 3 c a fun _=>Ld 4 c fun a=>.op (.st 4 b a) fun _=>.fin [.cn 4 b]
theorem afn (x0:AV):CC Tryz.prog Kh [x0] (Rv x0):=cc Tryz.func350
def RD (x0 x1:AV):Prog:=.op (.box x0) fun a=>.op (.box x1) fun b=>Lg 0 a fun c=>Lg 0 b fun d=>Bn .neq c d fun c=>.ite c (.fin [.val (.bool false)]) (Lg 1 a fun c=>Lg 1 b fun d=>Bn .neq c d fun c=>.ite c (.fin [.val (.bool false)]) (Lg 2 a fun c=>Lg 2 b fun d=>Bn .neq c d fun c=>.ite c (.fin [.val (.bool false)]) (Lg 3 a fun a=>Lg 3 b fun b=>Cl EF [a,b] fun a=>.op (.una .not a) fun a=>.ite a (.fin [.val (.bool false)]) (.fin [.val (.bool true)]))))
theorem afE (x0 x1:AV):CC Tryz.prog Kl [x0,x1] (RD x0 x1):=cc Tryz.func352
def Rz (x0 x1:AV):Prog:=.op (.box x0) fun a=>Lg 3 a fun a=>Cl Ez [a,x1] fun a=>Bn .lss a (.int .i64 0) fun b=>.ite b (.fin [.val (.int .i64 (-1))]) (.fin [.val a])
theorem afw (x0 x1:AV):CC Tryz.prog Kj [x0,x1] (Rz x0 x1):=cc Tryz.func341
def acV (x0:AV):Prog:=Ln 0 x0 fun a=>.op (.iw 4 48 [.int .i64 0,.int .i64 0,.int .i64 0,.aC] a a) fun a=>.loop [.int .i64 0] (fun b=>Ln 0 x0 fun c=>Bn .lss (g b 0) c fun c=>.ite c (Ix 4 x0 (g b 0) fun c=>Ld 4 c fun c=>Cl Kh [c] fun c=>Ix 4 a (g b 0) fun a=>.op (.st 4 a c) fun _=>Bn .add (g b 0) (.int .i64 1) fun a=>.leaf 0 [a]) (.leaf 2 [g b 0])) fun b c=>aB b 1 (.leaf 1 c) (aB b 2 (.fin [.val a]) .bad)
theorem adi (x0:AV):CC Tryz.prog DU [x0] (acV x0):=cc Tryz.func274 [0,3,4] (fun _=>[])
def acZ (x0 x1:AV):Prog:=Ln 0 x0 fun a=>Ln 0 x1 fun b=>Bn .neq a b fun a=>.ite a (.fin [.val (.bool false)]) (.loop [.int .i64 0] (fun a=>Ln 0 x0 fun b=>Bn .lss (g a 0) b fun b=>.ite b (Ix 4 x0 (g a 0) fun b=>Ld 4 b fun b=>Ix 4 x1 (g a 0) fun c=>Ld 4 c fun c=>Cl Kl [b,c] fun b=>.op (.una .not b) fun b=>.ite b (.fin [.val (.bool false)]) (Bn .add (g a 0) (.int .i64 1) fun a=>.leaf 0 [a])) (.leaf 2 [g a 0])) fun a b=>aB a 1 (.leaf 1 b) (aB a 2 (.fin [.val (.bool true)]) .bad))
theorem adq (x0 x1:AV):CC Tryz.prog DX [x0,x1] (acZ x0 x1):=cc Tryz.func280 [0,1,5] (fun r=>if r=6 then[(0,[]),(1,[]),(2,[]),(3,[]),(4,[]),(5,[]),(6,[]),(7,[]),(8,[]),(9,[])] else[])
def acX (x0 x1:AV):Prog:=Ln 0 x0 fun a=>Bn .sub x1 a fun a=>Bn .lss a (.int .i64 0) fun b=>.ite b (.fin [.val (.int .i64 (-1))]) (.loop [a,.int .i64 0] (fun a=>Ln 0 x0 fun b=>Bn .lss (g a 1) b fun b=>.ite b (Ix 4 x0 (g a 1) fun b=>Ld 4 b fun b=>Cl Kj [b,g a 0] fun b=>Bn .lss b (.int .i64 0) fun c=>.ite c (.fin [.val (.int .i64 (-1))]) (Bn .add (g a 1) (.int .i64 1) fun a=>.leaf 0 [b,a])) (.leaf 2 [g a 0,g a 1])) fun a b=>aB a 1 (.leaf 1 b) (aB a 2 (.fin [.val (g b 0)]) .bad))
theorem adn (x0 x1:AV):CC Tryz.prog DW [x0,x1] (acX x0 x1):=cc Tryz.func255 [0,1,5] (fun _=>[])
end
theorem ad7 (x:Trail) (hs:Sz.sz x≤1048576):dO Trail Tryz.prog Kh x:=by
 rintro cs F h ⟨v0,rfl,r0⟩
 have hs:(x.spans.length+szs x.spans)≤1048576:=hs
 refine afn _ ?_
 unfold Rv
 (repeat' first|refine vs ?_|((with_reducible refine aA Es ?_);(refine aK (mW aea ah aO) ?_;rintro _ _ ⟨e_,_,_,_⟩;have n_:=e_.1;(try simp only[aH,aN] at n_)))|fail)
 exact⟨rfl,_,rfl,aD,_,_,rfl,⟨_,rfl,ah⟩,bA⟩
theorem aem:EqC Trail Tryz.prog Kl:=by
 rintro x cs cs' F F' h ⟨v0,rfl,r0⟩ ⟨u0,rfl,q0⟩
 refine reader (afE _ _) (by simp only[old]) ?_
 unfold RD
 (repeat' first|refine vs ?_|((with_reducible refine aA EF ?_);refine aJ (aep _ _ _ _ _ _ ah ah) ?_)|fail)
 exact pb rfl
theorem aef:SzC Trail Tryz.prog Kj:=by
 rintro x ok cs F b h ⟨v0,rfl,r0⟩ h0 h1
 obtain⟨amO,Bj,aof,aoe⟩:=ok
 have hS:Sz.sz x=(x.spans.length+szs x.spans):=rfl
 refine reader (afw _ _) (by simp only[old]) ?_
 unfold Rz
 (repeat' first|refine vs ?_|(refine br ?_ ?_<;>first|exact bo|intro _)|((with_reducible refine aA Ez ?_);(refine jd (szl aeh ah (by assumption) aO aO) (fun _=>?_) (fun _=>?_)))|fail)
 all_goals(refine pi ?_;unfold szr;split<;>omega)
theorem acC (xs:List Trail) (hs:xs.length+szs xs≤1048576):gG Tryz.prog DU xs:=qw rfl rfl (by decide) hs (fun x hx=>ad7 x hx) (fun g=>adi _ g)
theorem acH:EqS Trail Tryz.prog DX:=fun xs v v' F F' h r r'=>reader (adq _ _) (by simp only[old]) (qp rfl aem r r')
theorem acF:SzL Trail Tryz.prog DW:=fun xs ok v F b h r h0 h1=>reader (adn _ _) (by simp only[old]) (vI rfl aef ok r h0 h1)
end Go.Proofs.YtkdjapahgmflbaaGreat
end
section
set_option maxHeartbeats 1000000
namespace Go.Proofs.YtkdjapahgmflbaaGreat
open Go Go.Ab
section
def Qf (x0:AV):Prog:=.op (.box x0) fun a=>.op (.alloc [.int .i64 0,.aC]) fun b=>.op (.alloc [.int .i64 0,.aC]) fun c=>Lg 0 a fun d=>Sg 0 c d fun _=>Lg 1 a fun a=>Cl DU [a] fun a=>Sg 1 c a fun _=>Ld 2 c fun a=>.op (.st 2 b a) fun _=>.fin [.cn 2 b]
theorem adk (x0:AV):CC Tryz.prog JL [x0] (Qf x0):=cc Tryz.func164
def Qi (x0 x1:AV):Prog:=.op (.box x0) fun a=>.op (.box x1) fun b=>Lg 0 a fun c=>Lg 0 b fun d=>Bn .neq c d fun c=>.ite c (.fin [.val (.bool false)]) (Lg 1 a fun a=>Lg 1 b fun b=>Cl DX [a,b] fun a=>.op (.una .not a) fun a=>.ite a (.fin [.val (.bool false)]) (.fin [.val (.bool true)]))
theorem ads (x0 x1:AV):CC Tryz.prog JN [x0,x1] (Qi x0 x1):=cc Tryz.func177
def Qh (x0 x1:AV):Prog:=.op (.box x0) fun a=>Lg 1 a fun a=>Cl DW [a,x1] fun a=>Bn .lss a (.int .i64 0) fun b=>.ite b (.fin [.val (.int .i64 (-1))]) (.fin [.val a])
theorem adp (x0 x1:AV):CC Tryz.prog JM [x0,x1] (Qh x0 x1):=cc Tryz.func140
def abC (x0:AV):Prog:=Ln 0 x0 fun a=>.op (.iw 2 32 [.int .i64 0,.aC] a a) fun a=>.loop [.int .i64 0] (fun b=>Ln 0 x0 fun c=>Bn .lss (g b 0) c fun c=>.ite c (Ix 2 x0 (g b 0) fun c=>Ld 2 c fun c=>Cl JL [c] fun c=>Ix 2 a (g b 0) fun a=>.op (.st 2 a c) fun _=>Bn .add (g b 0) (.int .i64 1) fun a=>.leaf 0 [a]) (.leaf 2 [g b 0])) fun b c=>aB b 1 (.leaf 1 c) (aB b 2 (.fin [.val a]) .bad)
theorem abT (x0:AV):CC Tryz.prog Dp [x0] (abC x0):=cc Tryz.func62 [0,3,4] (fun _=>[])
def abG (x0 x1:AV):Prog:=Ln 0 x0 fun a=>Ln 0 x1 fun b=>Bn .neq a b fun a=>.ite a (.fin [.val (.bool false)]) (.loop [.int .i64 0] (fun a=>Ln 0 x0 fun b=>Bn .lss (g a 0) b fun b=>.ite b (Ix 2 x0 (g a 0) fun b=>Ld 2 b fun b=>Ix 2 x1 (g a 0) fun c=>Ld 2 c fun c=>Cl JN [b,c] fun b=>.op (.una .not b) fun b=>.ite b (.fin [.val (.bool false)]) (Bn .add (g a 0) (.int .i64 1) fun a=>.leaf 0 [a])) (.leaf 2 [g a 0])) fun a b=>aB a 1 (.leaf 1 b) (aB a 2 (.fin [.val (.bool true)]) .bad))
theorem abY (x0 x1:AV):CC Tryz.prog Dr [x0,x1] (abG x0 x1):=cc Tryz.func74 [0,1,5] (fun r=>if r=6 then[(0,[]),(1,[]),(2,[]),(3,[]),(4,[]),(5,[]),(6,[]),(7,[]),(8,[]),(9,[])] else[])
def abE (x0 x1:AV):Prog:=Ln 0 x0 fun a=>Bn .sub x1 a fun a=>Bn .lss a (.int .i64 0) fun b=>.ite b (.fin [.val (.int .i64 (-1))]) (.loop [a,.int .i64 0] (fun a=>Ln 0 x0 fun b=>Bn .lss (g a 1) b fun b=>.ite b (Ix 2 x0 (g a 1) fun b=>Ld 2 b fun b=>Cl JM [b,g a 0] fun b=>Bn .lss b (.int .i64 0) fun c=>.ite c (.fin [.val (.int .i64 (-1))]) (Bn .add (g a 1) (.int .i64 1) fun a=>.leaf 0 [b,a])) (.leaf 2 [g a 0,g a 1])) fun a b=>aB a 1 (.leaf 1 b) (aB a 2 (.fin [.val (g b 0)]) .bad))
theorem abV (x0 x1:AV):CC Tryz.prog Dq [x0,x1] (abE x0 x1):=cc Tryz.func50 [0,1,5] (fun _=>[])
end
theorem acD (x:aQ) (hs:Sz.sz x≤1048576):dO aQ Tryz.prog JL x:=by
 rintro cs F h ⟨v0,rfl,r0⟩
 have hs:(x.l.length+szs x.l)≤1048576:=hs
 refine adk _ ?_
 unfold Qf
 (repeat' first|refine vs ?_|((with_reducible refine aA DU ?_);(refine aK (mW acC ah aO) ?_;rintro _ _ ⟨e_,_,_,_⟩;have n_:=e_.1;(try simp only[aH,aN] at n_)))|fail)
 exact⟨rfl,_,rfl,aD,_,_,rfl,⟨_,rfl,ah⟩,bA⟩
theorem acI:EqC aQ Tryz.prog JN:=by
 rintro x cs cs' F F' h ⟨v0,rfl,r0⟩ ⟨u0,rfl,q0⟩
 refine reader (ads _ _) (by simp only[old]) ?_
 unfold Qi
 (repeat' first|refine vs ?_|((with_reducible refine aA DX ?_);refine aJ (acH _ _ _ _ _ _ ah ah) ?_)|fail)
 exact pb rfl
theorem acG:SzC aQ Tryz.prog JM:=by
 rintro x ok cs F b h ⟨v0,rfl,r0⟩ h0 h1
 obtain⟨aop,aoG⟩:=ok
 have hS:Sz.sz x=(x.l.length+szs x.l):=rfl
 refine reader (adp _ _) (by simp only[old]) ?_
 unfold Qh
 (repeat' first|refine vs ?_|(refine br ?_ ?_<;>first|exact bo|intro _)|((with_reducible refine aA DW ?_);(refine jd (acF _ (by assumption) _ _ _ _ ah aO aO) (fun _=>?_) (fun _=>?_)))|fail)
 all_goals(refine pi ?_;unfold szr;split<;>omega)
theorem abe (xs:List aQ) (hs:xs.length+szs xs≤1048576):gG Tryz.prog Dp xs:=qw rfl rfl (by decide) hs (fun x hx=>acD x hx) (fun g=>abT _ g)
theorem abk:EqS aQ Tryz.prog Dr:=fun xs v v' F F' h r r'=>reader (abY _ _) (by simp only[old]) (qp rfl acI r r')
theorem abg:SzL aQ Tryz.prog Dq:=fun xs ok v F b h r h0 h1=>reader (abV _ _) (by simp only[old]) (vI rfl acG ok r h0 h1)
end Go.Proofs.YtkdjapahgmflbaaGreat
end
section
set_option maxHeartbeats 1000000
namespace Go.Proofs.YtkdjapahgmflbaaGreat
open Go Go.Ab
section
def Tg (x0:AV):Prog:=.op (.box x0) fun a=>.op (.alloc iO) fun b=>.op (.alloc iO) fun c=>Lg 0 a fun d=>Sg 0 c d fun _=>.op (.fad 1 a) fun a=>Ld 6 a fun a=>Cl pY [a] fun a=>.op (.fad 1 c) fun d=>.op (.st 6 d a) fun _=>Ld 7 c fun a=>.op (.st 7 b a) fun _=>.fin [.cn 7 b]
theorem ahn (x0:AV):CC Tryz.prog KI [x0] (Tg x0):=cc Tryz.func168
def Tz (x0 x1:AV):Prog:=.op (.box x0) fun a=>.op (.box x1) fun b=>Lg 0 a fun c=>Lg 0 b fun d=>Bn .neq c d fun c=>.ite c (.fin [.val (.bool false)]) (.op (.fad 1 a) fun a=>Ld 6 a fun a=>.op (.fad 1 b) fun b=>Ld 6 b fun b=>Cl qc [a,b] fun a=>.op (.una .not a) fun a=>.ite a (.fin [.val (.bool false)]) (.fin [.val (.bool true)]))
theorem ahB (x0 x1:AV):CC Tryz.prog KR [x0,x1] (Tz x0 x1):=cc Tryz.func181
def Tp (x0 x1:AV):Prog:=.op (.box x0) fun a=>.op (.fad 1 a) fun a=>Ld 6 a fun a=>Cl qb [a,x1] fun a=>Bn .lss a (.int .i64 0) fun b=>.ite b (.fin [.val (.int .i64 (-1))]) (.fin [.val a])
theorem ahu (x0 x1:AV):CC Tryz.prog KN [x0,x1] (Tp x0 x1):=cc Tryz.func142
def aeI (x0:AV):Prog:=Ln 0 x0 fun a=>.op (.iw 7 72 iO a a) fun a=>.loop [.int .i64 0] (fun b=>Ln 0 x0 fun c=>Bn .lss (g b 0) c fun c=>.ite c (Ix 7 x0 (g b 0) fun c=>Ld 7 c fun c=>Cl KI [c] fun c=>Ix 7 a (g b 0) fun a=>.op (.st 7 a c) fun _=>Bn .add (g b 0) (.int .i64 1) fun a=>.leaf 0 [a]) (.leaf 2 [g b 0])) fun b c=>aB b 1 (.leaf 1 c) (aB b 2 (.fin [.val a]) .bad)
theorem afr (x0:AV):CC Tryz.prog uT [x0] (aeI x0):=cc Tryz.func67 [0,3,4] (fun _=>[])
def aeS (x0 x1:AV):Prog:=Ln 0 x0 fun a=>Ln 0 x1 fun b=>Bn .neq a b fun a=>.ite a (.fin [.val (.bool false)]) (.loop [.int .i64 0] (fun a=>Ln 0 x0 fun b=>Bn .lss (g a 0) b fun b=>.ite b (Ix 7 x0 (g a 0) fun b=>Ld 7 b fun b=>Ix 7 x1 (g a 0) fun c=>Ld 7 c fun c=>Cl KR [b,c] fun b=>.op (.una .not b) fun b=>.ite b (.fin [.val (.bool false)]) (Bn .add (g a 0) (.int .i64 1) fun a=>.leaf 0 [a])) (.leaf 2 [g a 0])) fun a b=>aB a 1 (.leaf 1 b) (aB a 2 (.fin [.val (.bool true)]) .bad))
theorem afI (x0 x1:AV):CC Tryz.prog uV [x0,x1] (aeS x0 x1):=cc Tryz.func79 [0,1,5] (fun r=>if r=6 then[(0,[]),(1,[]),(2,[]),(3,[]),(4,[]),(5,[]),(6,[]),(7,[]),(8,[]),(9,[])] else[])
def aeN (x0 x1:AV):Prog:=Ln 0 x0 fun a=>Bn .sub x1 a fun a=>Bn .lss a (.int .i64 0) fun b=>.ite b (.fin [.val (.int .i64 (-1))]) (.loop [a,.int .i64 0] (fun a=>Ln 0 x0 fun b=>Bn .lss (g a 1) b fun b=>.ite b (Ix 7 x0 (g a 1) fun b=>Ld 7 b fun b=>Cl KN [b,g a 0] fun b=>Bn .lss b (.int .i64 0) fun c=>.ite c (.fin [.val (.int .i64 (-1))]) (Bn .add (g a 1) (.int .i64 1) fun a=>.leaf 0 [b,a])) (.leaf 2 [g a 0,g a 1])) fun a b=>aB a 1 (.leaf 1 b) (aB a 2 (.fin [.val (g b 0)]) .bad))
theorem afz (x0 x1:AV):CC Tryz.prog uU [x0,x1] (aeN x0 x1):=cc Tryz.func54 [0,1,5] (fun _=>[])
end
theorem agr (x:Itm) (hs:Sz.sz x≤1048576):dO Itm Tryz.prog KI x:=by
 rintro cs F h ⟨v0,rfl,r0⟩
 have hs:Sz.sz x.s≤1048576:=hs
 have e_s:Sz.sz x.s=(x.s.attrs.length+szs x.s.attrs):=rfl
 refine ahn _ ?_
 unfold Tg
 (repeat' first|refine vs ?_|((with_reducible refine aA pY ?_);(refine aK (ES _ aO _ _ _ ⟨_,rfl,ah⟩) ?_;rintro _ _ ⟨e_,_,_,rfl,⟨_,rfl,_⟩,_⟩;have n_:=e_.1;(try simp only[aH,aN] at n_)))|fail)
 exact⟨rfl,_,rfl,aD,_,_,rfl,⟨_,rfl,ah⟩,bA⟩
theorem agB:EqC Itm Tryz.prog KR:=by
 rintro x cs cs' F F' h ⟨v0,rfl,r0⟩ ⟨u0,rfl,q0⟩
 refine reader (ahB _ _) (by simp only[old]) ?_
 unfold Tz
 (repeat' first|refine vs ?_|((with_reducible refine aA qc ?_);refine aJ (EU _ _ _ _ _ _ ⟨_,rfl,ah⟩ ⟨_,rfl,ah⟩) ?_)|fail)
 exact pb rfl
theorem agw:SzC Itm Tryz.prog KN:=by
 rintro x ok cs F b h ⟨v0,rfl,r0⟩ h0 h1
 obtain⟨Bj,zy⟩:=ok
 have hS:Sz.sz x=Sz.sz x.s:=rfl
 have e_s:Sz.sz x.s=(x.s.attrs.length+szs x.s.attrs):=rfl
 refine reader (ahu _ _) (by simp only[old]) ?_
 unfold Tp
 (repeat' first|refine vs ?_|(refine br ?_ ?_<;>first|exact bo|intro _)|((with_reducible refine aA qb ?_);(refine jd (ET _ (by assumption) _ _ _ _ ⟨_,rfl,ah⟩ aO aO) (fun _=>?_) (fun _=>?_)))|fail)
 all_goals(refine pi ?_;unfold szr;split<;>omega)
theorem QJ (xs:List Itm) (hs:xs.length+szs xs≤1048576):gG Tryz.prog uT xs:=qw rfl rfl (by decide) hs (fun x hx=>agr x hx) (fun g=>afr _ g)
theorem QL:EqS Itm Tryz.prog uV:=fun xs v v' F F' h r r'=>reader (afI _ _) (by simp only[old]) (qp rfl agB r r')
theorem QK:SzL Itm Tryz.prog uU:=fun xs ok v F b h r h0 h1=>reader (afz _ _) (by simp only[old]) (vI rfl agw ok r h0 h1)
end Go.Proofs.YtkdjapahgmflbaaGreat
end
section
set_option maxHeartbeats 1000000
namespace Go.Proofs.YtkdjapahgmflbaaGreat
open Go Go.Ab
section
def Te (x0:AV):Prog:=.op (.box x0) fun a=>.op (.alloc gJ) fun b=>.op (.alloc gJ) fun c=>Lg 0 a fun d=>Sg 0 c d fun _=>Lg 1 a fun d=>Sg 1 c d fun _=>.op (.fad 2 a) fun d=>Ld 6 d fun d=>Cl pY [d] fun d=>.op (.fad 2 c) fun e=>.op (.st 6 e d) fun _=>Lg 8 a fun d=>Sg 8 c d fun _=>Lg 9 a fun d=>Sg 9 c d fun _=>Lg 10 a fun d=>Cl uT [d] fun d=>Sg 10 c d fun _=>Lg 11 a fun a=>Sg 11 c a fun _=>Ld 12 c fun a=>.op (.st 12 b a) fun _=>.fin [.cn 12 b]
theorem ahk (x0:AV):CC Tryz.prog KH [x0] (Te x0):=cc Tryz.func169
def Tw (x0 x1:AV):Prog:=.op (.box x0) fun a=>.op (.box x1) fun b=>Lg 0 a fun c=>Lg 0 b fun d=>Bn .neq c d fun c=>.ite c (.fin [.val (.bool false)]) (Lg 1 a fun c=>Lg 1 b fun d=>Bn .neq c d fun c=>.ite c (.fin [.val (.bool false)]) (.op (.fad 2 a) fun c=>Ld 6 c fun c=>.op (.fad 2 b) fun d=>Ld 6 d fun d=>Cl qc [c,d] fun c=>.op (.una .not c) fun c=>.ite c (.fin [.val (.bool false)]) (Lg 8 a fun c=>Lg 8 b fun d=>Bn .neq c d fun c=>.ite c (.fin [.val (.bool false)]) (Lg 9 a fun c=>Lg 9 b fun d=>Bn .neq c d fun c=>.ite c (.fin [.val (.bool false)]) (Lg 10 a fun c=>Lg 10 b fun d=>Cl uV [c,d] fun c=>.op (.una .not c) fun c=>.ite c (.fin [.val (.bool false)]) (Lg 11 a fun a=>Lg 11 b fun b=>Bn .neq a b fun a=>.ite a (.fin [.val (.bool false)]) (.fin [.val (.bool true)])))))))
theorem ahy (x0 x1:AV):CC Tryz.prog KQ [x0,x1] (Tw x0 x1):=cc Tryz.func182
def Tm (x0 x1:AV):Prog:=.op (.box x0) fun a=>.op (.fad 2 a) fun b=>Ld 6 b fun b=>Cl qb [b,x1] fun b=>Bn .lss b (.int .i64 0) fun c=>.ite c (.fin [.val (.int .i64 (-1))]) (Lg 10 a fun a=>Cl uU [a,b] fun a=>Bn .lss a (.int .i64 0) fun b=>.ite b (.fin [.val (.int .i64 (-1))]) (.fin [.val a]))
theorem ahr (x0 x1:AV):CC Tryz.prog KM [x0,x1] (Tm x0 x1):=cc Tryz.func143
end
theorem agq (x:Task) (hs:Sz.sz x≤1048576):dO Task Tryz.prog KH x:=by
 rintro cs F h ⟨v0,v1,F0,F1,rfl,rfl,r0,r1⟩
 have hs:Sz.sz x.s+(x.hand.length+szs x.hand)≤1048576:=hs
 have e_s:Sz.sz x.s=(x.s.attrs.length+szs x.s.attrs):=rfl
 refine ahk _ ?_
 unfold Te
 (repeat' first|refine vs ?_|((with_reducible refine aA pY ?_);(refine aK (ES _ aO _ _ _ ⟨_,rfl,ah⟩) ?_;rintro _ _ ⟨e_,_,_,rfl,⟨_,rfl,_⟩,_⟩;have n_:=e_.1;(try simp only[aH,aN] at n_)))|((with_reducible refine aA uT ?_);(refine aK (mW QJ ah aO) ?_;rintro _ _ ⟨e_,_,_,_⟩;have n_:=e_.1;(try simp only[aH,aN] at n_)))|fail)
 exact⟨rfl,_,rfl,aD,_,_,rfl,⟨_,_,_,_,rfl,rfl,ah,ah⟩,(dK cK cK kK).1⟩
theorem agA:EqC Task Tryz.prog KQ:=by
 rintro x cs cs' F F' h ⟨v0,v1,F0,F1,rfl,rfl,r0,r1⟩ ⟨u0,u1,G0,G1,rfl,rfl,q0,q1⟩
 refine reader (ahy _ _) (by simp only[old]) ?_
 unfold Tw
 (repeat' first|refine vs ?_|((with_reducible refine aA qc ?_);refine aJ (EU _ _ _ _ _ _ ⟨_,rfl,ah⟩ ⟨_,rfl,ah⟩) ?_)|((with_reducible refine aA uV ?_);refine aJ (QL _ _ _ _ _ _ ah ah) ?_)|fail)
 exact pb rfl
theorem agv:SzC Task Tryz.prog KM:=by
 rintro x ok cs F b h ⟨v0,v1,F0,F1,rfl,rfl,r0,r1⟩ h0 h1
 obtain⟨M8,YT,zy,Gl,Bj,GJ,Zd⟩:=ok
 have hS:Sz.sz x=Sz.sz x.s+(x.hand.length+szs x.hand):=rfl
 have e_s:Sz.sz x.s=(x.s.attrs.length+szs x.s.attrs):=rfl
 refine reader (ahr _ _) (by simp only[old]) ?_
 unfold Tm
 (repeat' first|refine vs ?_|(refine br ?_ ?_<;>first|exact bo|intro _)|((with_reducible refine aA qb ?_);(refine jd (ET _ (by assumption) _ _ _ _ ⟨_,rfl,ah⟩ aO aO) (fun _=>?_) (fun _=>?_)))|((with_reducible refine aA uU ?_);(refine jd (szl QK ah (by assumption) aO aO) (fun _=>?_) (fun _=>?_)))|fail)
 all_goals(refine pi ?_;unfold szr;split<;>omega)
end Go.Proofs.YtkdjapahgmflbaaGreat
end
section
set_option maxHeartbeats 1000000
namespace Go.Proofs.YtkdjapahgmflbaaGreat
open Go Go.Ab
section
def aeG (x0:AV):Prog:=Ln 0 x0 fun a=>.op (.iw 12 128 gJ a a) fun a=>.loop [.int .i64 0] (fun b=>Ln 0 x0 fun c=>Bn .lss (g b 0) c fun c=>.ite c (Ix 12 x0 (g b 0) fun c=>Ld 12 c fun c=>Cl KH [c] fun c=>Ix 12 a (g b 0) fun a=>.op (.st 12 a c) fun _=>Bn .add (g b 0) (.int .i64 1) fun a=>.leaf 0 [a]) (.leaf 2 [g b 0])) fun b c=>aB b 1 (.leaf 1 c) (aB b 2 (.fin [.val a]) .bad)
theorem afp (x0:AV):CC Tryz.prog Er [x0] (aeG x0):=cc Tryz.func68 [0,3,4] (fun _=>[])
def aeQ (x0 x1:AV):Prog:=Ln 0 x0 fun a=>Ln 0 x1 fun b=>Bn .neq a b fun a=>.ite a (.fin [.val (.bool false)]) (.loop [.int .i64 0] (fun a=>Ln 0 x0 fun b=>Bn .lss (g a 0) b fun b=>.ite b (Ix 12 x0 (g a 0) fun b=>Ld 12 b fun b=>Ix 12 x1 (g a 0) fun c=>Ld 12 c fun c=>Cl KQ [b,c] fun b=>.op (.una .not b) fun b=>.ite b (.fin [.val (.bool false)]) (Bn .add (g a 0) (.int .i64 1) fun a=>.leaf 0 [a])) (.leaf 2 [g a 0])) fun a b=>aB a 1 (.leaf 1 b) (aB a 2 (.fin [.val (.bool true)]) .bad))
theorem afG (x0 x1:AV):CC Tryz.prog ED [x0,x1] (aeQ x0 x1):=cc Tryz.func80 [0,1,5] (fun r=>if r=6 then[(0,[]),(1,[]),(2,[]),(3,[]),(4,[]),(5,[]),(6,[]),(7,[]),(8,[]),(9,[])] else[])
def aeL (x0 x1:AV):Prog:=Ln 0 x0 fun a=>Bn .sub x1 a fun a=>Bn .lss a (.int .i64 0) fun b=>.ite b (.fin [.val (.int .i64 (-1))]) (.loop [a,.int .i64 0] (fun a=>Ln 0 x0 fun b=>Bn .lss (g a 1) b fun b=>.ite b (Ix 12 x0 (g a 1) fun b=>Ld 12 b fun b=>Cl KM [b,g a 0] fun b=>Bn .lss b (.int .i64 0) fun c=>.ite c (.fin [.val (.int .i64 (-1))]) (Bn .add (g a 1) (.int .i64 1) fun a=>.leaf 0 [b,a])) (.leaf 2 [g a 0,g a 1])) fun a b=>aB a 1 (.leaf 1 b) (aB a 2 (.fin [.val (g b 0)]) .bad))
theorem afx (x0 x1:AV):CC Tryz.prog Ey [x0,x1] (aeL x0 x1):=cc Tryz.func55 [0,1,5] (fun _=>[])
end
theorem ad9 (xs:List Task) (hs:xs.length+szs xs≤1048576):gG Tryz.prog Er xs:=qw rfl rfl (by decide) hs (fun x hx=>agq x hx) (fun g=>afp _ g)
theorem aeo:EqS Task Tryz.prog ED:=fun xs v v' F F' h r r'=>reader (afG _ _) (by simp only[old]) (qp rfl agA r r')
theorem aeg:SzL Task Tryz.prog Ey:=fun xs ok v F b h r h0 h1=>reader (afx _ _) (by simp only[old]) (vI rfl agv ok r h0 h1)
end Go.Proofs.YtkdjapahgmflbaaGreat
end
section
set_option maxHeartbeats 1000000
namespace Go.Proofs.YtkdjapahgmflbaaGreat
open Go Go.Ab
section
def Ti (x0:AV):Prog:=.op (.box x0) fun a=>.op (.alloc iV) fun b=>.op (.alloc iV) fun c=>Lg 0 a fun d=>Sg 0 c d fun _=>Lg 1 a fun d=>Sg 1 c d fun _=>.op (.fad 2 a) fun d=>Ld 6 d fun d=>Cl pY [d] fun d=>.op (.fad 2 c) fun e=>.op (.st 6 e d) fun _=>Lg 8 a fun d=>Sg 8 c d fun _=>Lg 9 a fun d=>Sg 9 c d fun _=>Lg 10 a fun d=>Sg 10 c d fun _=>Lg 11 a fun d=>Sg 11 c d fun _=>Lg 12 a fun d=>Sg 12 c d fun _=>Lg 13 a fun d=>Sg 13 c d fun _=>Lg 14 a fun d=>Sg 14 c d fun _=>Lg 15 a fun d=>Sg 15 c d fun _=>Lg 16 a fun d=>Sg 16 c d fun _=>Lg 17 a fun d=>Sg 17 c d fun _=>Lg 18 a fun d=>Sg 18 c d fun _=>Lg 19 a fun a=>Sg 19 c a fun _=>Ld 20 c fun a=>.op (.st 20 b a) fun _=>.fin [.cn 20 b]
theorem aho (x0:AV):CC Tryz.prog KJ [x0] (Ti x0):=cc Tryz.func170
def TA (x0 x1:AV):Prog:=.op (.box x0) fun a=>.op (.box x1) fun b=>Lg 0 a fun c=>Lg 0 b fun d=>Bn .neq c d fun c=>.ite c (.fin [.val (.bool false)]) (Lg 1 a fun c=>Lg 1 b fun d=>Bn .neq c d fun c=>.ite c (.fin [.val (.bool false)]) (.op (.fad 2 a) fun c=>Ld 6 c fun c=>.op (.fad 2 b) fun d=>Ld 6 d fun d=>Cl qc [c,d] fun c=>.op (.una .not c) fun c=>.ite c (.fin [.val (.bool false)]) (Lg 8 a fun c=>Lg 8 b fun d=>Bn .neq c d fun c=>.ite c (.fin [.val (.bool false)]) (Lg 9 a fun c=>Lg 9 b fun d=>Bn .neq c d fun c=>.ite c (.fin [.val (.bool false)]) (Lg 10 a fun c=>Lg 10 b fun d=>Bn .neq c d fun c=>.ite c (.fin [.val (.bool false)]) (Lg 11 a fun c=>Lg 11 b fun d=>.op (.bin 2 .neq c d) fun c=>.ite c (.fin [.val (.bool false)]) (Lg 12 a fun c=>Lg 12 b fun d=>.op (.bin 2 .neq c d) fun c=>.ite c (.fin [.val (.bool false)]) (Lg 13 a fun c=>Lg 13 b fun d=>Bn .neq c d fun c=>.ite c (.fin [.val (.bool false)]) (Lg 14 a fun c=>Lg 14 b fun d=>Bn .neq c d fun c=>.ite c (.fin [.val (.bool false)]) (Lg 15 a fun c=>Lg 15 b fun d=>Bn .neq c d fun c=>.ite c (.fin [.val (.bool false)]) (Lg 16 a fun c=>Lg 16 b fun d=>Bn .neq c d fun c=>.ite c (.fin [.val (.bool false)]) (Lg 17 a fun c=>Lg 17 b fun d=>Bn .neq c d fun c=>.ite c (.fin [.val (.bool false)]) (Lg 18 a fun c=>Lg 18 b fun d=>Bn .neq c d fun c=>.ite c (.fin [.val (.bool false)]) (Lg 19 a fun a=>Lg 19 b fun b=>Bn .neq a b fun a=>.ite a (.fin [.val (.bool false)]) (.fin [.val (.bool true)])))))))))))))))
theorem ahC (x0 x1:AV):CC Tryz.prog KS [x0,x1] (TA x0 x1):=cc Tryz.func183
def Tq (x0 x1:AV):Prog:=.op (.box x0) fun a=>.op (.fad 2 a) fun a=>Ld 6 a fun a=>Cl qb [a,x1] fun a=>Bn .lss a (.int .i64 0) fun b=>.ite b (.fin [.val (.int .i64 (-1))]) (.fin [.val a])
theorem ahv (x0 x1:AV):CC Tryz.prog KO [x0,x1] (Tq x0 x1):=cc Tryz.func144
end
theorem ags (x:bI) (hs:Sz.sz x≤1048576):dO bI Tryz.prog KJ x:=by
 rintro cs F h ⟨v0,rfl,r0⟩
 have hs:Sz.sz x.s≤1048576:=hs
 have e_s:Sz.sz x.s=(x.s.attrs.length+szs x.s.attrs):=rfl
 refine aho _ ?_
 unfold Ti
 (repeat' first|refine vs ?_|((with_reducible refine aA pY ?_);(refine aK (ES _ aO _ _ _ ⟨_,rfl,ah⟩) ?_;rintro _ _ ⟨e_,_,_,rfl,⟨_,rfl,_⟩,_⟩;have n_:=e_.1;(try simp only[aH,aN] at n_)))|fail)
 exact⟨rfl,_,rfl,aD,_,_,rfl,⟨_,rfl,ah⟩,bA⟩
theorem agC:EqC bI Tryz.prog KS:=by
 rintro x cs cs' F F' h ⟨v0,rfl,r0⟩ ⟨u0,rfl,q0⟩
 refine reader (ahC _ _) (by simp only[old]) ?_
 unfold TA
 (repeat' first|refine vs ?_|((with_reducible refine aA qc ?_);refine aJ (EU _ _ _ _ _ _ ⟨_,rfl,ah⟩ ⟨_,rfl,ah⟩) ?_)|fail)
 exact pb rfl
theorem agx:SzC bI Tryz.prog KO:=by
 rintro x ok cs F b h ⟨v0,rfl,r0⟩ h0 h1
 obtain⟨M8,aok,zy,Gl,Bj,aoq,aoj,anv,aob,amb,aot,aos,aor⟩:=ok
 have hS:Sz.sz x=Sz.sz x.s:=rfl
 have e_s:Sz.sz x.s=(x.s.attrs.length+szs x.s.attrs):=rfl
 refine reader (ahv _ _) (by simp only[old]) ?_
 unfold Tq
 (repeat' first|refine vs ?_|(refine br ?_ ?_<;>first|exact bo|intro _)|((with_reducible refine aA qb ?_);(refine jd (ET _ (by assumption) _ _ _ _ ⟨_,rfl,ah⟩ aO aO) (fun _=>?_) (fun _=>?_)))|fail)
 all_goals(refine pi ?_;unfold szr;split<;>omega)
end Go.Proofs.YtkdjapahgmflbaaGreat
end
section
set_option maxHeartbeats 1000000
namespace Go.Proofs.YtkdjapahgmflbaaGreat
open Go Go.Ab
section
def aeJ (x0:AV):Prog:=Ln 0 x0 fun a=>.op (.iw 20 168 iV a a) fun a=>.loop [.int .i64 0] (fun b=>Ln 0 x0 fun c=>Bn .lss (g b 0) c fun c=>.ite c (Ix 20 x0 (g b 0) fun c=>Ld 20 c fun c=>Cl KJ [c] fun c=>Ix 20 a (g b 0) fun a=>.op (.st 20 a c) fun _=>Bn .add (g b 0) (.int .i64 1) fun a=>.leaf 0 [a]) (.leaf 2 [g b 0])) fun b c=>aB b 1 (.leaf 1 c) (aB b 2 (.fin [.val a]) .bad)
theorem afs (x0:AV):CC Tryz.prog Et [x0] (aeJ x0):=cc Tryz.func69 [0,3,4] (fun _=>[])
def aeT (x0 x1:AV):Prog:=Ln 0 x0 fun a=>Ln 0 x1 fun b=>Bn .neq a b fun a=>.ite a (.fin [.val (.bool false)]) (.loop [.int .i64 0] (fun a=>Ln 0 x0 fun b=>Bn .lss (g a 0) b fun b=>.ite b (Ix 20 x0 (g a 0) fun b=>Ld 20 b fun b=>Ix 20 x1 (g a 0) fun c=>Ld 20 c fun c=>Cl KS [b,c] fun b=>.op (.una .not b) fun b=>.ite b (.fin [.val (.bool false)]) (Bn .add (g a 0) (.int .i64 1) fun a=>.leaf 0 [a])) (.leaf 2 [g a 0])) fun a b=>aB a 1 (.leaf 1 b) (aB a 2 (.fin [.val (.bool true)]) .bad))
theorem afJ (x0 x1:AV):CC Tryz.prog EG [x0,x1] (aeT x0 x1):=cc Tryz.func81 [0,1,5] (fun r=>if r=6 then[(0,[]),(1,[]),(2,[]),(3,[]),(4,[]),(5,[]),(6,[]),(7,[]),(8,[]),(9,[])] else[])
def aeO (x0 x1:AV):Prog:=Ln 0 x0 fun a=>Bn .sub x1 a fun a=>Bn .lss a (.int .i64 0) fun b=>.ite b (.fin [.val (.int .i64 (-1))]) (.loop [a,.int .i64 0] (fun a=>Ln 0 x0 fun b=>Bn .lss (g a 1) b fun b=>.ite b (Ix 20 x0 (g a 1) fun b=>Ld 20 b fun b=>Cl KO [b,g a 0] fun b=>Bn .lss b (.int .i64 0) fun c=>.ite c (.fin [.val (.int .i64 (-1))]) (Bn .add (g a 1) (.int .i64 1) fun a=>.leaf 0 [b,a])) (.leaf 2 [g a 0,g a 1])) fun a b=>aB a 1 (.leaf 1 b) (aB a 2 (.fin [.val (g b 0)]) .bad))
theorem afA (x0 x1:AV):CC Tryz.prog EA [x0,x1] (aeO x0 x1):=cc Tryz.func56 [0,1,5] (fun _=>[])
end
theorem aeb (xs:List bI) (hs:xs.length+szs xs≤1048576):gG Tryz.prog Et xs:=qw rfl rfl (by decide) hs (fun x hx=>ags x hx) (fun g=>afs _ g)
theorem aer:EqS bI Tryz.prog EG:=fun xs v v' F F' h r r'=>reader (afJ _ _) (by simp only[old]) (qp rfl agC r r')
theorem aei:SzL bI Tryz.prog EA:=fun xs ok v F b h r h0 h1=>reader (afA _ _) (by simp only[old]) (vI rfl agx ok r h0 h1)
end Go.Proofs.YtkdjapahgmflbaaGreat
end
section
set_option maxHeartbeats 1000000
namespace Go.Proofs.YtkdjapahgmflbaaGreat
open Go Go.Ab
section
def abB (x0:AV):Prog:=Ln 0 x0 fun a=>.op (.iw 1 24 [.aC] a a) fun a=>.loop [.int .i64 0] (fun b=>Ln 0 x0 fun c=>Bn .lss (g b 0) c fun c=>.ite c (Ix 1 x0 (g b 0) fun c=>.op (.ld1 c) fun c=>Cl uN [c] fun c=>Ix 1 a (g b 0) fun a=>.op (.st 1 a c) fun _=>Bn .add (g b 0) (.int .i64 1) fun a=>.leaf 0 [a]) (.leaf 2 [g b 0])) fun b c=>aB b 1 (.leaf 1 c) (aB b 2 (.fin [.val a]) .bad)
theorem abS (x0:AV):CC Tryz.prog zU [x0] (abB x0):=cc Tryz.func166 [0,3,4] (fun _=>[])
def abF (x0 x1:AV):Prog:=Ln 0 x0 fun a=>Ln 0 x1 fun b=>Bn .neq a b fun a=>.ite a (.fin [.val (.bool false)]) (.loop [.int .i64 0] (fun a=>Ln 0 x0 fun b=>Bn .lss (g a 0) b fun b=>.ite b (Ix 1 x0 (g a 0) fun b=>.op (.ld1 b) fun b=>Ix 1 x1 (g a 0) fun c=>.op (.ld1 c) fun c=>Cl uP [b,c] fun b=>.op (.una .not b) fun b=>.ite b (.fin [.val (.bool false)]) (Bn .add (g a 0) (.int .i64 1) fun a=>.leaf 0 [a])) (.leaf 2 [g a 0])) fun a b=>aB a 1 (.leaf 1 b) (aB a 2 (.fin [.val (.bool true)]) .bad))
theorem abX (x0 x1:AV):CC Tryz.prog zW [x0,x1] (abF x0 x1):=cc Tryz.func179 [0,1,5] (fun r=>if r=6 then[(0,[]),(1,[]),(2,[]),(3,[]),(4,[]),(5,[]),(6,[]),(7,[]),(8,[]),(9,[])] else[])
def abD (x0 x1:AV):Prog:=Ln 0 x0 fun a=>Bn .sub x1 a fun a=>Bn .lss a (.int .i64 0) fun b=>.ite b (.fin [.val (.int .i64 (-1))]) (.loop [a,.int .i64 0] (fun a=>Ln 0 x0 fun b=>Bn .lss (g a 1) b fun b=>.ite b (Ix 1 x0 (g a 1) fun b=>.op (.ld1 b) fun b=>Cl uO [b,g a 0] fun b=>Bn .lss b (.int .i64 0) fun c=>.ite c (.fin [.val (.int .i64 (-1))]) (Bn .add (g a 1) (.int .i64 1) fun a=>.leaf 0 [b,a])) (.leaf 2 [g a 0,g a 1])) fun a b=>aB a 1 (.leaf 1 b) (aB a 2 (.fin [.val (g b 0)]) .bad))
theorem abU (x0 x1:AV):CC Tryz.prog zV [x0,x1] (abD x0 x1):=cc Tryz.func141 [0,1,5] (fun _=>[])
def Rw (x0:AV):Prog:=.op (.box x0) fun a=>.op (.alloc [.int .i64 0,.int .i64 0,.int .i64 0]) fun b=>.op (.alloc [.int .i64 0,.int .i64 0,.int .i64 0]) fun c=>Lg 0 a fun d=>Sg 0 c d fun _=>Lg 1 a fun d=>Sg 1 c d fun _=>Lg 2 a fun a=>Sg 2 c a fun _=>Ld 3 c fun a=>.op (.st 3 b a) fun _=>.fin [.cn 3 b]
theorem afo (x0:AV):CC Tryz.prog Ki [x0] (Rw x0):=cc Tryz.func167
def RF (x0 x1:AV):Prog:=.op (.box x0) fun a=>.op (.box x1) fun b=>Lg 0 a fun c=>Lg 0 b fun d=>Bn .neq c d fun c=>.ite c (.fin [.val (.bool false)]) (Lg 1 a fun c=>Lg 1 b fun d=>Bn .neq c d fun c=>.ite c (.fin [.val (.bool false)]) (Lg 2 a fun a=>Lg 2 b fun b=>Bn .neq a b fun a=>.ite a (.fin [.val (.bool false)]) (.fin [.val (.bool true)])))
theorem afF (x0 x1:AV):CC Tryz.prog Km [x0,x1] (RF x0 x1):=cc Tryz.func180
def acW (x0:AV):Prog:=Ln 0 x0 fun a=>.op (.iw 3 24 [.int .i64 0,.int .i64 0,.int .i64 0] a a) fun a=>.loop [.int .i64 0] (fun b=>Ln 0 x0 fun c=>Bn .lss (g b 0) c fun c=>.ite c (Ix 3 x0 (g b 0) fun c=>Ld 3 c fun c=>Cl Ki [c] fun c=>Ix 3 a (g b 0) fun a=>.op (.st 3 a c) fun _=>Bn .add (g b 0) (.int .i64 1) fun a=>.leaf 0 [a]) (.leaf 2 [g b 0])) fun b c=>aB b 1 (.leaf 1 c) (aB b 2 (.fin [.val a]) .bad)
theorem adj (x0:AV):CC Tryz.prog uN [x0] (acW x0):=cc Tryz.func66 [0,3,4] (fun _=>[])
def ac0 (x0 x1:AV):Prog:=Ln 0 x0 fun a=>Ln 0 x1 fun b=>Bn .neq a b fun a=>.ite a (.fin [.val (.bool false)]) (.loop [.int .i64 0] (fun a=>Ln 0 x0 fun b=>Bn .lss (g a 0) b fun b=>.ite b (Ix 3 x0 (g a 0) fun b=>Ld 3 b fun b=>Ix 3 x1 (g a 0) fun c=>Ld 3 c fun c=>Cl Km [b,c] fun b=>.op (.una .not b) fun b=>.ite b (.fin [.val (.bool false)]) (Bn .add (g a 0) (.int .i64 1) fun a=>.leaf 0 [a])) (.leaf 2 [g a 0])) fun a b=>aB a 1 (.leaf 1 b) (aB a 2 (.fin [.val (.bool true)]) .bad))
theorem adr (x0 x1:AV):CC Tryz.prog uP [x0,x1] (ac0 x0 x1):=cc Tryz.func78 [0,1,5] (fun r=>if r=6 then[(0,[]),(1,[]),(2,[]),(3,[]),(4,[]),(5,[]),(6,[]),(7,[]),(8,[]),(9,[])] else[])
def acY (x0 x1:AV):Prog:=Ln 0 x0 fun a=>Bn .sub x1 a fun a=>Bn .lss a (.int .i64 0) fun b=>.ite b (.fin [.val (.int .i64 (-1))]) (.fin [.val a])
theorem ado (x0 x1:AV):CC Tryz.prog uO [x0,x1] (acY x0 x1):=cc Tryz.func53
end
theorem ad8 (x:Ab.Timer) (hs:Sz.sz x≤1048576):dO Ab.Timer Tryz.prog Ki x:=by
 rintro cs F h ⟨rfl,rfl⟩
 have hs:0≤1048576:=hs
 refine afo _ ?_
 unfold Rw
 (repeat' first|refine vs ?_|fail)
 exact⟨rfl,_,rfl,aD,_,_,rfl,⟨rfl,rfl⟩,Own.nil⟩
theorem aen:EqC Ab.Timer Tryz.prog Km:=by
 rintro x cs cs' F F' h ⟨rfl,rfl⟩ ⟨rfl,rfl⟩
 refine reader (afF _ _) (by simp only[old]) ?_
 unfold RF
 (repeat' first|refine vs ?_|fail)
 exact pb rfl
theorem JC (xs:List Ab.Timer) (hs:xs.length+szs xs≤1048576):gG Tryz.prog uN xs:=qw rfl rfl (by decide) hs (fun x hx=>ad8 x hx) (fun g=>adj _ g)
theorem JE:EqS Ab.Timer Tryz.prog uP:=fun xs v v' F F' h r r'=>reader (adr _ _) (by simp only[old]) (qp rfl aen r r')
theorem JD:SzL Ab.Timer Tryz.prog uO:=fun xs _ v F b h r h0 h1=>reader (ado _ _) (by simp only[old]) (by have:=Wo (P:=Tryz.prog) r h0 h1;rw[LW (fun _=>rfl)];exact this)
theorem abd (xs:List (List Ab.Timer)) (hs:xs.length+szs xs≤1048576):gG Tryz.prog zU xs:=fun v F h r=>abS _ (toSS_spec (w:=1) rfl rfl rfl (fun x hx=>JC x (by have:=bC hx;have h2:Sz.sz x=x.length+szs x:=rfl;omega)) r (by omega))
theorem abj:EqS (List Ab.Timer) Tryz.prog zW:=fun xs v v' F F' h r r'=>reader (abX _ _) (by simp only[old]) (aj6 JE r r')
theorem abf:SzL (List Ab.Timer) Tryz.prog zV:=fun xs ok v F b h r h0 h1=>reader (abU _ _) (by simp only[old]) (ajO JD ok r h0 h1)
end Go.Proofs.YtkdjapahgmflbaaGreat
end
section
set_option maxHeartbeats 1000000
namespace Go.Proofs.YtkdjapahgmflbaaGreat
open Go Go.Ab
section
def Ru (x0:AV):Prog:=.op (.box x0) fun a=>.op (.alloc [.int .i64 0,.aC,.aC,.aC]) fun b=>.op (.alloc [.int .i64 0,.aC,.aC,.aC]) fun c=>Lg 0 a fun d=>Sg 0 c d fun _=>Lg 1 a fun d=>Cl zU [d] fun d=>Sg 1 c d fun _=>Lg 2 a fun d=>Cl zU [d] fun d=>Sg 2 c d fun _=>Lg 3 a fun a=>Cl uN [a] fun a=>Sg 3 c a fun _=>Ld 4 c fun a=>.op (.st 4 b a) fun _=>.fin [.cn 4 b]
theorem afm (x0:AV):CC Tryz.prog Ep [x0] (Ru x0):=cc Tryz.func65
def RB (x0 x1:AV):Prog:=.op (.box x0) fun a=>.op (.box x1) fun b=>Lg 0 a fun c=>Lg 0 b fun d=>Bn .neq c d fun c=>.ite c (.fin [.val (.bool false)]) (Lg 1 a fun c=>Lg 1 b fun d=>Cl zW [c,d] fun c=>.op (.una .not c) fun c=>.ite c (.fin [.val (.bool false)]) (Lg 2 a fun c=>Lg 2 b fun d=>Cl zW [c,d] fun c=>.op (.una .not c) fun c=>.ite c (.fin [.val (.bool false)]) (Lg 3 a fun a=>Lg 3 b fun b=>Cl uP [a,b] fun a=>.op (.una .not a) fun a=>.ite a (.fin [.val (.bool false)]) (.fin [.val (.bool true)]))))
theorem afD (x0 x1:AV):CC Tryz.prog EC [x0,x1] (RB x0 x1):=cc Tryz.func77
def Ry (x0 x1:AV):Prog:=.op (.box x0) fun a=>Lg 1 a fun b=>Cl zV [b,x1] fun b=>Bn .lss b (.int .i64 0) fun c=>.ite c (.fin [.val (.int .i64 (-1))]) (Lg 2 a fun c=>Cl zV [c,b] fun b=>Bn .lss b (.int .i64 0) fun c=>.ite c (.fin [.val (.int .i64 (-1))]) (Lg 3 a fun a=>Cl uO [a,b] fun a=>Bn .lss a (.int .i64 0) fun b=>.ite b (.fin [.val (.int .i64 (-1))]) (.fin [.val a])))
theorem afv (x0 x1:AV):CC Tryz.prog Ew [x0,x1] (Ry x0 x1):=cc Tryz.func52
end
theorem ad6 (x:bX) (hs:Sz.sz x≤1048576):dO bX Tryz.prog Ep x:=by
 rintro cs F h ⟨v0,v1,v2,F0,F1,F2,rfl,rfl,r0,r1,r2⟩
 have hs:(x.near.length+szs x.near)+(x.far.length+szs x.far)+(x.rest.length+szs x.rest)≤1048576:=hs
 refine afm _ ?_
 unfold Ru
 (repeat' first|refine vs ?_|((with_reducible refine aA zU ?_);(refine aK (mW abd ah aO) ?_;rintro _ _ ⟨e_,_,_,_⟩;have n_:=e_.1;(try simp only[aH,aN] at n_)))|((with_reducible refine aA uN ?_);(refine aK (mW JC ah aO) ?_;rintro _ _ ⟨e_,_,_,_⟩;have n_:=e_.1;(try simp only[aH,aN] at n_)))|fail)
 exact⟨rfl,_,rfl,aD,_,_,rfl,⟨_,_,_,_,_,_,rfl,rfl,ah,ah,ah⟩,(dK cK (dK cK cK dV) dV).1⟩
theorem ael:EqC bX Tryz.prog EC:=by
 rintro x cs cs' F F' h ⟨v0,v1,v2,F0,F1,F2,rfl,rfl,r0,r1,r2⟩ ⟨u0,u1,u2,G0,G1,G2,rfl,rfl,q0,q1,q2⟩
 refine reader (afD _ _) (by simp only[old]) ?_
 unfold RB
 (repeat' first|refine vs ?_|((with_reducible refine aA zW ?_);refine aJ (abj _ _ _ _ _ _ ah ah) ?_)|((with_reducible refine aA uP ?_);refine aJ (JE _ _ _ _ _ _ ah ah) ?_)|fail)
 exact pb rfl
theorem aee:SzC bX Tryz.prog Ew:=by
 rintro x ok cs F b h ⟨v0,v1,v2,F0,F1,F2,rfl,rfl,r0,r1,r2⟩ h0 h1
 obtain⟨amb,aoo,aov,aom⟩:=ok
 have hS:Sz.sz x=(x.near.length+szs x.near)+(x.far.length+szs x.far)+(x.rest.length+szs x.rest):=rfl
 refine reader (afv _ _) (by simp only[old]) ?_
 unfold Ry
 (repeat' first|refine vs ?_|(refine br ?_ ?_<;>first|exact bo|intro _)|((with_reducible refine aA zV ?_);(refine jd (szl abf ah (by assumption) aO aO) (fun _=>?_) (fun _=>?_)))|((with_reducible refine aA uO ?_);(refine jd (szl JD ah (by assumption) aO aO) (fun _=>?_) (fun _=>?_)))|fail)
 all_goals(refine pi ?_;unfold szr;split<;>omega)
end Go.Proofs.YtkdjapahgmflbaaGreat
end
section
set_option maxHeartbeats 1000000
namespace Go.Proofs.YtkdjapahgmflbaaGreat
open Go Go.Ab
section
def O9 (x0:AV):Prog:=.op (.box x0) fun a=>.op (.alloc [.int .i64 0,.int .i64 0,.bool false]) fun b=>.op (.alloc [.int .i64 0,.int .i64 0,.bool false]) fun c=>Lg 0 a fun d=>Sg 0 c d fun _=>Lg 1 a fun d=>Sg 1 c d fun _=>Lg 2 a fun a=>Sg 2 c a fun _=>Ld 3 c fun a=>.op (.st 3 b a) fun _=>.fin [.cn 3 b]
theorem abR (x0:AV):CC Tryz.prog Jr [x0] (O9 x0):=cc Tryz.func165
def Pb (x0 x1:AV):Prog:=.op (.box x0) fun a=>.op (.box x1) fun b=>Lg 0 a fun c=>Lg 0 b fun d=>Bn .neq c d fun c=>.ite c (.fin [.val (.bool false)]) (Lg 1 a fun c=>Lg 1 b fun d=>Bn .neq c d fun c=>.ite c (.fin [.val (.bool false)]) (Lg 2 a fun a=>Lg 2 b fun b=>.op (.bin 2 .neq a b) fun a=>.ite a (.fin [.val (.bool false)]) (.fin [.val (.bool true)])))
theorem abW (x0 x1:AV):CC Tryz.prog Js [x0,x1] (Pb x0 x1):=cc Tryz.func178
def aaS (x0:AV):Prog:=Ln 0 x0 fun a=>.op (.iw 3 24 [.int .i64 0,.int .i64 0,.bool false] a a) fun a=>.loop [.int .i64 0] (fun b=>Ln 0 x0 fun c=>Bn .lss (g b 0) c fun c=>.ite c (Ix 3 x0 (g b 0) fun c=>Ld 3 c fun c=>Cl Jr [c] fun c=>Ix 3 a (g b 0) fun a=>.op (.st 3 a c) fun _=>Bn .add (g b 0) (.int .i64 1) fun a=>.leaf 0 [a]) (.leaf 2 [g b 0])) fun b c=>aB b 1 (.leaf 1 c) (aB b 2 (.fin [.val a]) .bad)
theorem aaW (x0:AV):CC Tryz.prog Df [x0] (aaS x0):=cc Tryz.func64 [0,3,4] (fun _=>[])
def aaU (x0 x1:AV):Prog:=Ln 0 x0 fun a=>Ln 0 x1 fun b=>Bn .neq a b fun a=>.ite a (.fin [.val (.bool false)]) (.loop [.int .i64 0] (fun a=>Ln 0 x0 fun b=>Bn .lss (g a 0) b fun b=>.ite b (Ix 3 x0 (g a 0) fun b=>Ld 3 b fun b=>Ix 3 x1 (g a 0) fun c=>Ld 3 c fun c=>Cl Js [b,c] fun b=>.op (.una .not b) fun b=>.ite b (.fin [.val (.bool false)]) (Bn .add (g a 0) (.int .i64 1) fun a=>.leaf 0 [a])) (.leaf 2 [g a 0])) fun a b=>aB a 1 (.leaf 1 b) (aB a 2 (.fin [.val (.bool true)]) .bad))
theorem aaY (x0 x1:AV):CC Tryz.prog Di [x0,x1] (aaU x0 x1):=cc Tryz.func76 [0,1,5] (fun r=>if r=6 then[(0,[]),(1,[]),(2,[]),(3,[]),(4,[]),(5,[]),(6,[]),(7,[]),(8,[]),(9,[])] else[])
def aaT (x0 x1:AV):Prog:=Ln 0 x0 fun a=>Bn .sub x1 a fun a=>Bn .lss a (.int .i64 0) fun b=>.ite b (.fin [.val (.int .i64 (-1))]) (.fin [.val a])
theorem aaX (x0 x1:AV):CC Tryz.prog Dh [x0,x1] (aaT x0 x1):=cc Tryz.func51
end
theorem abb (x:bJ) (hs:Sz.sz x≤1048576):dO bJ Tryz.prog Jr x:=by
 rintro cs F h ⟨rfl,rfl⟩
 have hs:0≤1048576:=hs
 refine abR _ ?_
 unfold O9
 (repeat' first|refine vs ?_|fail)
 exact⟨rfl,_,rfl,aD,_,_,rfl,⟨rfl,rfl⟩,Own.nil⟩
theorem abh:EqC bJ Tryz.prog Js:=by
 rintro x cs cs' F F' h ⟨rfl,rfl⟩ ⟨rfl,rfl⟩
 refine reader (abW _ _) (by simp only[old]) ?_
 unfold Pb
 (repeat' first|refine vs ?_|fail)
 exact pb rfl
theorem aaE (xs:List bJ) (hs:xs.length+szs xs≤1048576):gG Tryz.prog Df xs:=qw rfl rfl (by decide) hs (fun x hx=>abb x hx) (fun g=>aaW _ g)
theorem aaG:EqS bJ Tryz.prog Di:=fun xs v v' F F' h r r'=>reader (aaY _ _) (by simp only[old]) (qp rfl abh r r')
theorem aaF:SzL bJ Tryz.prog Dh:=fun xs _ v F b h r h0 h1=>reader (aaX _ _) (by simp only[old]) (by have:=Wo (P:=Tryz.prog) r h0 h1;rw[LW (fun _=>rfl)];exact this)
end Go.Proofs.YtkdjapahgmflbaaGreat
end
section
set_option maxHeartbeats 1000000
namespace Go.Proofs.YtkdjapahgmflbaaGreat
open Go Go.Ab
section
def Qg (x0:AV):Prog:=.op (.box x0) fun a=>.op (.alloc [.int .i64 0,.int .i64 0,.int .i64 0,.int .i64 0]) fun b=>.op (.alloc [.int .i64 0,.int .i64 0,.int .i64 0,.int .i64 0]) fun c=>Lg 0 a fun d=>Sg 0 c d fun _=>Lg 1 a fun d=>Sg 1 c d fun _=>Lg 2 a fun d=>Sg 2 c d fun _=>Lg 3 a fun a=>Sg 3 c a fun _=>Ld 4 c fun a=>.op (.st 4 b a) fun _=>.fin [.cn 4 b]
theorem adl (x0:AV):CC Tryz.prog DV [x0] (Qg x0):=cc Tryz.func63
def Qj (x0 x1:AV):Prog:=.op (.box x0) fun a=>.op (.box x1) fun b=>Lg 0 a fun c=>Lg 0 b fun d=>Bn .neq c d fun c=>.ite c (.fin [.val (.bool false)]) (Lg 1 a fun c=>Lg 1 b fun d=>Bn .neq c d fun c=>.ite c (.fin [.val (.bool false)]) (Lg 2 a fun c=>Lg 2 b fun d=>Bn .neq c d fun c=>.ite c (.fin [.val (.bool false)]) (Lg 3 a fun a=>Lg 3 b fun b=>Bn .neq a b fun a=>.ite a (.fin [.val (.bool false)]) (.fin [.val (.bool true)]))))
theorem adt (x0 x1:AV):CC Tryz.prog DY [x0,x1] (Qj x0 x1):=cc Tryz.func75
end
theorem acE (x:Bucket) (hs:Sz.sz x≤1048576):dO Bucket Tryz.prog DV x:=by
 rintro cs F h ⟨rfl,rfl⟩
 have hs:0≤1048576:=hs
 refine adl _ ?_
 unfold Qg
 (repeat' first|refine vs ?_|fail)
 exact⟨rfl,_,rfl,aD,_,_,rfl,⟨rfl,rfl⟩,Own.nil⟩
theorem acJ:EqC Bucket Tryz.prog DY:=by
 rintro x cs cs' F F' h ⟨rfl,rfl⟩ ⟨rfl,rfl⟩
 refine reader (adt _ _) (by simp only[old]) ?_
 unfold Qj
 (repeat' first|refine vs ?_|fail)
 exact pb rfl
end Go.Proofs.YtkdjapahgmflbaaGreat
end
section
set_option maxHeartbeats 1000000
namespace Go.Proofs.YtkdjapahgmflbaaGreat
open Go Go.Ab
section
def Tj (x0:AV):Prog:=.op (.box x0) fun a=>.op (.alloc yF) fun b=>.op (.alloc yF) fun c=>Lg 0 a fun d=>Sg 0 c d fun _=>Lg 1 a fun d=>Sg 1 c d fun _=>Lg 2 a fun d=>Sg 2 c d fun _=>Lg 3 a fun d=>Sg 3 c d fun _=>Lg 4 a fun d=>Sg 4 c d fun _=>Lg 5 a fun d=>Sg 5 c d fun _=>Lg 6 a fun d=>Sg 6 c d fun _=>.op (.fad 7 a) fun a=>Ld 5 a fun a=>Cl vB [a] fun a=>.op (.fad 7 c) fun d=>.op (.st 5 d a) fun _=>Ld 12 c fun a=>.op (.st 12 b a) fun _=>.fin [.cn 12 b]
theorem ahp (x0:AV):CC Tryz.prog Fg [x0] (Tj x0):=cc Tryz.func61
def TB (x0 x1:AV):Prog:=.op (.box x0) fun a=>.op (.box x1) fun b=>Lg 0 a fun c=>Lg 0 b fun d=>Bn .neq c d fun c=>.ite c (.fin [.val (.bool false)]) (Lg 1 a fun c=>Lg 1 b fun d=>Bn .neq c d fun c=>.ite c (.fin [.val (.bool false)]) (Lg 2 a fun c=>Lg 2 b fun d=>Bn .neq c d fun c=>.ite c (.fin [.val (.bool false)]) (Lg 3 a fun c=>Lg 3 b fun d=>Bn .neq c d fun c=>.ite c (.fin [.val (.bool false)]) (Lg 4 a fun c=>Lg 4 b fun d=>Bn .neq c d fun c=>.ite c (.fin [.val (.bool false)]) (Lg 5 a fun c=>Lg 5 b fun d=>Bn .neq c d fun c=>.ite c (.fin [.val (.bool false)]) (Lg 6 a fun c=>Lg 6 b fun d=>Bn .neq c d fun c=>.ite c (.fin [.val (.bool false)]) (.op (.fad 7 a) fun a=>Ld 5 a fun a=>.op (.fad 7 b) fun b=>Ld 5 b fun b=>Cl xK [a,b] fun a=>.op (.una .not a) fun a=>.ite a (.fin [.val (.bool false)]) (.fin [.val (.bool true)]))))))))
theorem ahD (x0 x1:AV):CC Tryz.prog Fj [x0,x1] (TB x0 x1):=cc Tryz.func73
def Tt (x0 x1:AV):Prog:=.op (.box x0) fun a=>.op (.fad 7 a) fun a=>Ld 5 a fun a=>Cl xJ [a,x1] fun a=>Bn .lss a (.int .i64 0) fun b=>.ite b (.fin [.val (.int .i64 (-1))]) (.fin [.val a])
theorem ahw (x0 x1:AV):CC Tryz.prog Fh [x0,x1] (Tt x0 x1):=cc Tryz.func49
end
theorem agt (x:iL) (hs:Sz.sz x≤1048576):dO iL Tryz.prog Fg x:=by
 rintro cs F h ⟨v0,rfl,r0⟩
 have hs:Sz.sz x.rule≤1048576:=hs
 have amm:Sz.sz x.rule=x.rule.key.size+x.rule.text.size+(x.rule.l.length+szs x.rule.l):=Pol.tZ _
 refine ahp _ ?_
 unfold Tj
 (repeat' first|refine vs ?_|((with_reducible refine aA vB ?_);(refine aK (Uc _ aO _ _ _ (Pol.dw.2 ⟨_,rfl,ah⟩)) ?_;rintro _ _ ⟨e_,_,_,rfl,r_,_⟩;obtain⟨_,rfl,_⟩:=Pol.dw.1 r_;have n_:=e_.1;(try simp only[aH,aN] at n_)))|fail)
 exact⟨rfl,_,rfl,aD,_,_,rfl,⟨_,rfl,ah⟩,bA⟩
theorem agD:EqC iL Tryz.prog Fj:=by
 rintro x cs cs' F F' h ⟨v0,rfl,r0⟩ ⟨u0,rfl,q0⟩
 refine reader (ahD _ _) (by simp only[old]) ?_
 unfold TB
 (repeat' first|refine vs ?_|((with_reducible refine aA xK ?_);refine aJ (Ue _ _ _ _ _ _ (Pol.dw.2 ⟨_,rfl,ah⟩) (Pol.dw.2 ⟨_,rfl,ah⟩)) ?_)|fail)
 exact pb rfl
theorem agy:SzC iL Tryz.prog Fh:=by
 rintro x ok cs F b h ⟨v0,rfl,r0⟩ h0 h1
 obtain⟨aoa,aoi,aoc,yx,sZ,aon,aog,aol⟩:=ok
 have hS:Sz.sz x=Sz.sz x.rule:=rfl
 have amm:Sz.sz x.rule=x.rule.key.size+x.rule.text.size+(x.rule.l.length+szs x.rule.l):=Pol.tZ _
 refine reader (ahw _ _) (by simp only[old]) ?_
 unfold Tt
 (repeat' first|refine vs ?_|(refine br ?_ ?_<;>first|exact bo|intro _)|((with_reducible refine aA xJ ?_);(refine jd (Ud _ (by assumption) _ _ _ _ (Pol.dw.2 ⟨_,rfl,ah⟩) aO aO) (fun _=>?_) (fun _=>?_)))|fail)
 all_goals(refine pi ?_;unfold szr;split<;>omega)
end Go.Proofs.YtkdjapahgmflbaaGreat
end
