import Derived.Test.YtekfdoknfcedpaaGreatDNm
import Derived.Test.YtekfdoknfcedpaaGreatDK4
import Derived.Test.YtekfdoknfcedpaaGreatDKW1
section
set_option linter.unusedSimpArgs false
set_option linter.unusedVariables false
set_option maxHeartbeats 1000000
namespace Go.Proofs.YtekfdoknfcedpaaGreat
open Go Go.Ab
section
def Rh (x0:AV):Prog:=.op (.box x0) fun a=>.op (.alloc [.str ⟨#[]⟩,.bool false,.int .i64 0,.str ⟨#[]⟩]) fun b=>.op (.alloc [.str ⟨#[]⟩,.bool false,.int .i64 0,.str ⟨#[]⟩]) fun c=>Lg 0 a fun d=>Sg 0 c d fun _=>Lg 1 a fun d=>Sg 1 c d fun _=>Lg 2 a fun d=>Sg 2 c d fun _=>Lg 3 a fun a=>Sg 3 c a fun _=>Ld 4 c fun a=>.op (.st 4 b a) fun _=>.fin [.cn 4 b]
theorem ahA (x0:AV):CC Tryz.prog JE [x0] (Rh x0):=cc Tryz.func163
def Ru (x0 x1:AV):Prog:=.op (.box x0) fun a=>.op (.box x1) fun b=>Lg 0 a fun c=>Lg 0 b fun d=>.op (.bin 1 .neq c d) fun c=>.ite c (.fin [.val (.bool false)]) (Lg 1 a fun c=>Lg 1 b fun d=>.op (.bin 2 .neq c d) fun c=>.ite c (.fin [.val (.bool false)]) (Lg 2 a fun c=>Lg 2 b fun d=>Bn .neq c d fun c=>.ite c (.fin [.val (.bool false)]) (Lg 3 a fun a=>Lg 3 b fun b=>.op (.bin 1 .neq a b) fun a=>.ite a (.fin [.val (.bool false)]) (.fin [.val (.bool true)]))))
theorem ahO (x0 x1:AV):CC Tryz.prog JM [x0,x1] (Ru x0 x1):=cc Tryz.func165
def Rn (x0 x1:AV):Prog:=.op (.box x0) fun a=>Lg 0 a fun b=>Ln 1 b fun b=>Bn .sub x1 b fun b=>Bn .lss b (.int .i64 0) fun c=>.ite c (.fin [.val (.int .i64 (-1))]) (Lg 3 a fun a=>Ln 1 a fun a=>Bn .sub b a fun a=>Bn .lss a (.int .i64 0) fun b=>.ite b (.fin [.val (.int .i64 (-1))]) (.fin [.val a]))
theorem ahH (x0 x1:AV):CC Tryz.prog JI [x0,x1] (Rn x0 x1):=cc Tryz.func160
def afi (x0:AV):Prog:=Ln 0 x0 fun a=>.op (.gy 4 48 [.str ⟨#[]⟩,.bool false,.int .i64 0,.str ⟨#[]⟩] a a) fun a=>.loop [.int .i64 0] (fun b=>Ln 0 x0 fun c=>Bn .lss (g b 0) c fun c=>.ite c (Ix 4 x0 (g b 0) fun c=>Ld 4 c fun c=>Cl JE [c] fun c=>Ix 4 a (g b 0) fun a=>.op (.st 4 a c) fun _=>Bn .add (g b 0) (.int .i64 1) fun a=>.leaf 0 [a]) (.leaf 2 [g b 0])) fun b c=>ak b 1 (.leaf 1 c) (ak b 2 (.fin [.val a]) .bad)
theorem afX (x0:AV):CC Tryz.prog Di [x0] (afi x0):=cc Tryz.func79 [0,3,4] (fun _=>[])
def afs (x0 x1:AV):Prog:=Ln 0 x0 fun a=>Ln 0 x1 fun b=>Bn .neq a b fun a=>.ite a (.fin [.val (.bool false)]) (.loop [.int .i64 0] (fun a=>Ln 0 x0 fun b=>Bn .lss (g a 0) b fun b=>.ite b (Ix 4 x0 (g a 0) fun b=>Ld 4 b fun b=>Ix 4 x1 (g a 0) fun c=>Ld 4 c fun c=>Cl JM [b,c] fun b=>.op (.una .not b) fun b=>.ite b (.fin [.val (.bool false)]) (Bn .add (g a 0) (.int .i64 1) fun a=>.leaf 0 [a])) (.leaf 2 [g a 0])) fun a b=>ak a 1 (.leaf 1 b) (ak a 2 (.fin [.val (.bool true)]) .bad))
theorem agj (x0 x1:AV):CC Tryz.prog Dw [x0,x1] (afs x0 x1):=cc Tryz.func83 [0,1,5] (fun r=>if r=6 then[(0,[]),(1,[]),(2,[]),(3,[]),(4,[]),(5,[]),(6,[]),(7,[]),(8,[]),(9,[])] else[])
def afn (x0 x1:AV):Prog:=Ln 0 x0 fun a=>Bn .sub x1 a fun a=>Bn .lss a (.int .i64 0) fun b=>.ite b (.fin [.val (.int .i64 (-1))]) (.loop [a,.int .i64 0] (fun a=>Ln 0 x0 fun b=>Bn .lss (g a 1) b fun b=>.ite b (Ix 4 x0 (g a 1) fun b=>Ld 4 b fun b=>Cl JI [b,g a 0] fun b=>Bn .lss b (.int .i64 0) fun c=>.ite c (.fin [.val (.int .i64 (-1))]) (Bn .add (g a 1) (.int .i64 1) fun a=>.leaf 0 [b,a])) (.leaf 2 [g a 0,g a 1])) fun a b=>ak a 1 (.leaf 1 b) (ak a 2 (.fin [.val (g b 0)]) .bad))
theorem af6 (x0 x1:AV):CC Tryz.prog Dp [x0,x1] (afn x0 x1):=cc Tryz.func77 [0,1,5] (fun _=>[])
end
theorem agN (x:Attr) (hs:Sz.sz x≤1048576):dJ Attr Tryz.prog JE x:=by
 rintro cs F h ⟨rfl,rfl⟩
 have hs:x.key.size+x.text.size≤1048576:=hs
 refine ahA _ ?_
 unfold Rh
 (repeat' first|refine vs ?_|fail)
 exact⟨rfl,_,rfl,aA,_,_,rfl,⟨rfl,rfl⟩,Own.nil⟩
theorem agX:EqC Attr Tryz.prog JM:=by
 rintro x cs cs' F F' h ⟨rfl,rfl⟩ ⟨rfl,rfl⟩
 refine reader (ahO _ _) (by simp only[old]) ?_
 unfold Ru
 (repeat' first|refine vs ?_|fail)
 exact pb rfl
theorem agS:SzC Attr Tryz.prog JI:=by
 rintro x ok cs F b h ⟨rfl,rfl⟩ h0 h1
 obtain⟨VQ,ani,UZ⟩:=ok
 have VQ:x.key.size≤9223372036854775807:=VQ
 have UZ:x.text.size≤9223372036854775807:=UZ
 have hS:Sz.sz x=x.key.size+x.text.size:=rfl
 refine reader (ahH _ _) (by simp only[old]) ?_
 unfold Rn
 (repeat' first|refine vs ?_|(refine br ?_ ?_<;>first|exact bx|intro _)|fail)
 all_goals(refine pi ?_;unfold szr;split<;>omega)
theorem aeQ (xs:List Attr) (hs:xs.length+szs xs≤1048576):fI Tryz.prog Di xs:=oW rfl rfl (by decide) hs (fun x hx=>agN x hx) (fun g=>afX _ g)
theorem ae6:EqS Attr Tryz.prog Dw:=fun xs v v' F F' h r r'=>reader (agj _ _) (by simp only[old]) (oV rfl agX r r')
theorem aeX:SzL Attr Tryz.prog Dp:=fun xs ok v F b h r h0 h1=>reader (af6 _ _) (by simp only[old]) (tO rfl agS ok r h0 h1)
end Go.Proofs.YtekfdoknfcedpaaGreat
end
section
set_option linter.unusedSimpArgs false
set_option linter.unusedVariables false
set_option maxHeartbeats 1000000
namespace Go.Proofs.YtekfdoknfcedpaaGreat
open Go Go.Ab
section
def Ra (x0:AV):Prog:=.op (.box x0) fun a=>.op (.alloc iJ) fun b=>.op (.alloc iJ) fun c=>Lg 0 a fun d=>Sg 0 c d fun _=>Lg 1 a fun d=>Sg 1 c d fun _=>Lg 2 a fun d=>Sg 2 c d fun _=>Lg 3 a fun d=>Sg 3 c d fun _=>Lg 4 a fun d=>Sg 4 c d fun _=>Lg 5 a fun a=>Cl Di [a] fun a=>Sg 5 c a fun _=>Ld 6 c fun a=>.op (.st 6 b a) fun _=>.fin [.cn 6 b]
theorem ahv (x0:AV):CC Tryz.prog oO [x0] (Ra x0):=cc Tryz.func17
def Rp (x0 x1:AV):Prog:=.op (.box x0) fun a=>.op (.box x1) fun b=>Lg 0 a fun c=>Lg 0 b fun d=>Bn .neq c d fun c=>.ite c (.fin [.val (.bool false)]) (Lg 1 a fun c=>Lg 1 b fun d=>Bn .neq c d fun c=>.ite c (.fin [.val (.bool false)]) (Lg 2 a fun c=>Lg 2 b fun d=>Bn .neq c d fun c=>.ite c (.fin [.val (.bool false)]) (Lg 3 a fun c=>Lg 3 b fun d=>Bn .neq c d fun c=>.ite c (.fin [.val (.bool false)]) (Lg 4 a fun c=>Lg 4 b fun d=>.op (.bin 2 .neq c d) fun c=>.ite c (.fin [.val (.bool false)]) (Lg 5 a fun a=>Lg 5 b fun b=>Cl Dw [a,b] fun a=>.op (.una .not a) fun a=>.ite a (.fin [.val (.bool false)]) (.fin [.val (.bool true)]))))))
theorem ahJ (x0 x1:AV):CC Tryz.prog oQ [x0,x1] (Rp x0 x1):=cc Tryz.func19
def Rj (x0 x1:AV):Prog:=.op (.box x0) fun a=>Lg 5 a fun a=>Cl Dp [a,x1] fun a=>Bn .lss a (.int .i64 0) fun b=>.ite b (.fin [.val (.int .i64 (-1))]) (.fin [.val a])
theorem ahC (x0 x1:AV):CC Tryz.prog oP [x0,x1] (Rj x0 x1):=cc Tryz.func15
def aff (x0:AV):Prog:=Ln 0 x0 fun a=>.op (.gy 6 64 iJ a a) fun a=>.loop [.int .i64 0] (fun b=>Ln 0 x0 fun c=>Bn .lss (g b 0) c fun c=>.ite c (Ix 6 x0 (g b 0) fun c=>Ld 6 c fun c=>Cl oO [c] fun c=>Ix 6 a (g b 0) fun a=>.op (.st 6 a c) fun _=>Bn .add (g b 0) (.int .i64 1) fun a=>.leaf 0 [a]) (.leaf 2 [g b 0])) fun b c=>ak b 1 (.leaf 1 c) (ak b 2 (.fin [.val a]) .bad)
theorem afU (x0:AV):CC Tryz.prog Df [x0] (aff x0):=cc Tryz.func314 [0,3,4] (fun _=>[])
def afp (x0 x1:AV):Prog:=Ln 0 x0 fun a=>Ln 0 x1 fun b=>Bn .neq a b fun a=>.ite a (.fin [.val (.bool false)]) (.loop [.int .i64 0] (fun a=>Ln 0 x0 fun b=>Bn .lss (g a 0) b fun b=>.ite b (Ix 6 x0 (g a 0) fun b=>Ld 6 b fun b=>Ix 6 x1 (g a 0) fun c=>Ld 6 c fun c=>Cl oQ [b,c] fun b=>.op (.una .not b) fun b=>.ite b (.fin [.val (.bool false)]) (Bn .add (g a 0) (.int .i64 1) fun a=>.leaf 0 [a])) (.leaf 2 [g a 0])) fun a b=>ak a 1 (.leaf 1 b) (ak a 2 (.fin [.val (.bool true)]) .bad))
theorem agf (x0 x1:AV):CC Tryz.prog Du [x0,x1] (afp x0 x1):=cc Tryz.func323 [0,1,5] (fun r=>if r=6 then[(0,[]),(1,[]),(2,[]),(3,[]),(4,[]),(5,[]),(6,[]),(7,[]),(8,[]),(9,[])] else[])
def afk (x0 x1:AV):Prog:=Ln 0 x0 fun a=>Bn .sub x1 a fun a=>Bn .lss a (.int .i64 0) fun b=>.ite b (.fin [.val (.int .i64 (-1))]) (.loop [a,.int .i64 0] (fun a=>Ln 0 x0 fun b=>Bn .lss (g a 1) b fun b=>.ite b (Ix 6 x0 (g a 1) fun b=>Ld 6 b fun b=>Cl oP [b,g a 0] fun b=>Bn .lss b (.int .i64 0) fun c=>.ite c (.fin [.val (.int .i64 (-1))]) (Bn .add (g a 1) (.int .i64 1) fun a=>.leaf 0 [b,a])) (.leaf 2 [g a 0,g a 1])) fun a b=>ak a 1 (.leaf 1 b) (ak a 2 (.fin [.val (g b 0)]) .bad))
theorem af3 (x0 x1:AV):CC Tryz.prog Dm [x0,x1] (afk x0 x1):=cc Tryz.func307 [0,1,5] (fun _=>[])
end
theorem DN (x:Span) (hs:Sz.sz x≤1048576):dJ Span Tryz.prog oO x:=by
 rintro cs F h ⟨v0,rfl,r0⟩
 have hs:(x.attrs.length+szs x.attrs)≤1048576:=hs
 refine ahv _ ?_
 unfold Ra
 (repeat' first|refine vs ?_|((with_reducible refine ay Di ?_);(refine aG (lS aeQ ah aL) ?_;rintro _ _ ⟨e_,_,_,_⟩;have n_:=e_.1;(try simp only[aD,aN] at n_)))|fail)
 exact⟨rfl,_,rfl,aA,_,_,rfl,⟨_,rfl,ah⟩,aZ⟩
theorem DT:EqC Span Tryz.prog oQ:=by
 rintro x cs cs' F F' h ⟨v0,rfl,r0⟩ ⟨u0,rfl,q0⟩
 refine reader (ahJ _ _) (by simp only[old]) ?_
 unfold Rp
 (repeat' first|refine vs ?_|((with_reducible refine ay Dw ?_);refine aK (ae6 _ _ _ _ _ _ ah ah) ?_)|fail)
 exact pb rfl
theorem DR:SzC Span Tryz.prog oP:=by
 rintro x ok cs F b h ⟨v0,rfl,r0⟩ h0 h1
 obtain⟨EH,amA,anY,aof,an2⟩:=ok
 have hS:Sz.sz x=(x.attrs.length+szs x.attrs):=rfl
 refine reader (ahC _ _) (by simp only[old]) ?_
 unfold Rj
 (repeat' first|refine vs ?_|(refine br ?_ ?_<;>first|exact bo|intro _)|((with_reducible refine ay Dp ?_);(refine ig (szl aeX ah (by assumption) aL aL) (fun _=>?_) (fun _=>?_)))|fail)
 all_goals(refine pi ?_;unfold szr;split<;>omega)
theorem aeO (xs:List Span) (hs:xs.length+szs xs≤1048576):fI Tryz.prog Df xs:=oW rfl rfl (by decide) hs (fun x hx=>DN x hx) (fun g=>afU _ g)
theorem ae4:EqS Span Tryz.prog Du:=fun xs v v' F F' h r r'=>reader (agf _ _) (by simp only[old]) (oV rfl DT r r')
theorem aeV:SzL Span Tryz.prog Dm:=fun xs ok v F b h r h0 h1=>reader (af3 _ _) (by simp only[old]) (tO rfl DR ok r h0 h1)
end Go.Proofs.YtekfdoknfcedpaaGreat
end
section
set_option linter.unusedSimpArgs false
set_option linter.unusedVariables false
set_option maxHeartbeats 1000000
namespace Go.Proofs.YtekfdoknfcedpaaGreat
open Go Go.Ab
section
def P9 (x0:AV):Prog:=.op (.box x0) fun a=>.op (.alloc [.int .i64 0,.int .i64 0,.int .i64 0,.au]) fun b=>.op (.alloc [.int .i64 0,.int .i64 0,.int .i64 0,.au]) fun c=>Lg 0 a fun d=>Sg 0 c d fun _=>Lg 1 a fun d=>Sg 1 c d fun _=>Lg 2 a fun d=>Sg 2 c d fun _=>Lg 3 a fun a=>Cl Df [a] fun a=>Sg 3 c a fun _=>Ld 4 c fun a=>.op (.st 4 b a) fun _=>.fin [.cn 4 b]
theorem afR (x0:AV):CC Tryz.prog Jj [x0] (P9 x0):=cc Tryz.func265
def Qi (x0 x1:AV):Prog:=.op (.box x0) fun a=>.op (.box x1) fun b=>Lg 0 a fun c=>Lg 0 b fun d=>Bn .neq c d fun c=>.ite c (.fin [.val (.bool false)]) (Lg 1 a fun c=>Lg 1 b fun d=>Bn .neq c d fun c=>.ite c (.fin [.val (.bool false)]) (Lg 2 a fun c=>Lg 2 b fun d=>Bn .neq c d fun c=>.ite c (.fin [.val (.bool false)]) (Lg 3 a fun a=>Lg 3 b fun b=>Cl Du [a,b] fun a=>.op (.una .not a) fun a=>.ite a (.fin [.val (.bool false)]) (.fin [.val (.bool true)]))))
theorem agb (x0 x1:AV):CC Tryz.prog Jo [x0,x1] (Qi x0 x1):=cc Tryz.func295
def Qd (x0 x1:AV):Prog:=.op (.box x0) fun a=>Lg 3 a fun a=>Cl Dm [a,x1] fun a=>Bn .lss a (.int .i64 0) fun b=>.ite b (.fin [.val (.int .i64 (-1))]) (.fin [.val a])
theorem af0 (x0 x1:AV):CC Tryz.prog Jl [x0,x1] (Qd x0 x1):=cc Tryz.func247
def adF (x0:AV):Prog:=Ln 0 x0 fun a=>.op (.gy 4 48 [.int .i64 0,.int .i64 0,.int .i64 0,.au] a a) fun a=>.loop [.int .i64 0] (fun b=>Ln 0 x0 fun c=>Bn .lss (g b 0) c fun c=>.ite c (Ix 4 x0 (g b 0) fun c=>Ld 4 c fun c=>Cl Jj [c] fun c=>Ix 4 a (g b 0) fun a=>.op (.st 4 a c) fun _=>Bn .add (g b 0) (.int .i64 1) fun a=>.leaf 0 [a]) (.leaf 2 [g b 0])) fun b c=>ak b 1 (.leaf 1 c) (ak b 2 (.fin [.val a]) .bad)
theorem adY (x0:AV):CC Tryz.prog Cr [x0] (adF x0):=cc Tryz.func191 [0,3,4] (fun _=>[])
def adL (x0 x1:AV):Prog:=Ln 0 x0 fun a=>Ln 0 x1 fun b=>Bn .neq a b fun a=>.ite a (.fin [.val (.bool false)]) (.loop [.int .i64 0] (fun a=>Ln 0 x0 fun b=>Bn .lss (g a 0) b fun b=>.ite b (Ix 4 x0 (g a 0) fun b=>Ld 4 b fun b=>Ix 4 x1 (g a 0) fun c=>Ld 4 c fun c=>Cl Jo [b,c] fun b=>.op (.una .not b) fun b=>.ite b (.fin [.val (.bool false)]) (Bn .add (g a 0) (.int .i64 1) fun a=>.leaf 0 [a])) (.leaf 2 [g a 0])) fun a b=>ak a 1 (.leaf 1 b) (ak a 2 (.fin [.val (.bool true)]) .bad))
theorem aeb (x0 x1:AV):CC Tryz.prog Cv [x0,x1] (adL x0 x1):=cc Tryz.func225 [0,1,5] (fun r=>if r=6 then[(0,[]),(1,[]),(2,[]),(3,[]),(4,[]),(5,[]),(6,[]),(7,[]),(8,[]),(9,[])] else[])
def adH (x0 x1:AV):Prog:=Ln 0 x0 fun a=>Bn .sub x1 a fun a=>Bn .lss a (.int .i64 0) fun b=>.ite b (.fin [.val (.int .i64 (-1))]) (.loop [a,.int .i64 0] (fun a=>Ln 0 x0 fun b=>Bn .lss (g a 1) b fun b=>.ite b (Ix 4 x0 (g a 1) fun b=>Ld 4 b fun b=>Cl Jl [b,g a 0] fun b=>Bn .lss b (.int .i64 0) fun c=>.ite c (.fin [.val (.int .i64 (-1))]) (Bn .add (g a 1) (.int .i64 1) fun a=>.leaf 0 [b,a])) (.leaf 2 [g a 0,g a 1])) fun a b=>ak a 1 (.leaf 1 b) (ak a 2 (.fin [.val (g b 0)]) .bad))
theorem ad3 (x0 x1:AV):CC Tryz.prog Cu [x0,x1] (adH x0 x1):=cc Tryz.func168 [0,1,5] (fun _=>[])
end
theorem aeL (x:Trail) (hs:Sz.sz x≤1048576):dJ Trail Tryz.prog Jj x:=by
 rintro cs F h ⟨v0,rfl,r0⟩
 have hs:(x.spans.length+szs x.spans)≤1048576:=hs
 refine afR _ ?_
 unfold P9
 (repeat' first|refine vs ?_|((with_reducible refine ay Df ?_);(refine aG (lS aeO ah aL) ?_;rintro _ _ ⟨e_,_,_,_⟩;have n_:=e_.1;(try simp only[aD,aN] at n_)))|fail)
 exact⟨rfl,_,rfl,aA,_,_,rfl,⟨_,rfl,ah⟩,aZ⟩
theorem ae1:EqC Trail Tryz.prog Jo:=by
 rintro x cs cs' F F' h ⟨v0,rfl,r0⟩ ⟨u0,rfl,q0⟩
 refine reader (agb _ _) (by simp only[old]) ?_
 unfold Qi
 (repeat' first|refine vs ?_|((with_reducible refine ay Du ?_);refine aK (ae4 _ _ _ _ _ _ ah ah) ?_)|fail)
 exact pb rfl
theorem aeT:SzC Trail Tryz.prog Jl:=by
 rintro x ok cs F b h ⟨v0,rfl,r0⟩ h0 h1
 obtain⟨amA,zG,an0,anZ⟩:=ok
 have hS:Sz.sz x=(x.spans.length+szs x.spans):=rfl
 refine reader (af0 _ _) (by simp only[old]) ?_
 unfold Qd
 (repeat' first|refine vs ?_|(refine br ?_ ?_<;>first|exact bo|intro _)|((with_reducible refine ay Dm ?_);(refine ig (szl aeV ah (by assumption) aL aL) (fun _=>?_) (fun _=>?_)))|fail)
 all_goals(refine pi ?_;unfold szr;split<;>omega)
theorem adg (xs:List Trail) (hs:xs.length+szs xs≤1048576):fI Tryz.prog Cr xs:=oW rfl rfl (by decide) hs (fun x hx=>aeL x hx) (fun g=>adY _ g)
theorem adq:EqS Trail Tryz.prog Cv:=fun xs v v' F F' h r r'=>reader (aeb _ _) (by simp only[old]) (oV rfl ae1 r r')
theorem adj:SzL Trail Tryz.prog Cu:=fun xs ok v F b h r h0 h1=>reader (ad3 _ _) (by simp only[old]) (tO rfl aeT ok r h0 h1)
end Go.Proofs.YtekfdoknfcedpaaGreat
end
section
set_option linter.unusedSimpArgs false
set_option linter.unusedVariables false
set_option maxHeartbeats 1000000
namespace Go.Proofs.YtekfdoknfcedpaaGreat
open Go Go.Ab
section
def OA (x0:AV):Prog:=.op (.box x0) fun a=>.op (.alloc [.int .i64 0,.au]) fun b=>.op (.alloc [.int .i64 0,.au]) fun c=>Lg 0 a fun d=>Sg 0 c d fun _=>Lg 1 a fun a=>Cl Cr [a] fun a=>Sg 1 c a fun _=>Ld 2 c fun a=>.op (.st 2 b a) fun _=>.fin [.cn 2 b]
theorem ad1 (x0:AV):CC Tryz.prog IU [x0] (OA x0):=cc Tryz.func112
def OH (x0 x1:AV):Prog:=.op (.box x0) fun a=>.op (.box x1) fun b=>Lg 0 a fun c=>Lg 0 b fun d=>Bn .neq c d fun c=>.ite c (.fin [.val (.bool false)]) (Lg 1 a fun a=>Lg 1 b fun b=>Cl Cv [a,b] fun a=>.op (.una .not a) fun a=>.ite a (.fin [.val (.bool false)]) (.fin [.val (.bool true)]))
theorem aed (x0 x1:AV):CC Tryz.prog IY [x0,x1] (OH x0 x1):=cc Tryz.func136
def OC (x0 x1:AV):Prog:=.op (.box x0) fun a=>Lg 1 a fun a=>Cl Cu [a,x1] fun a=>Bn .lss a (.int .i64 0) fun b=>.ite b (.fin [.val (.int .i64 (-1))]) (.fin [.val a])
theorem ad5 (x0 x1:AV):CC Tryz.prog IV [x0,x1] (OC x0 x1):=cc Tryz.func86
def abP (x0:AV):Prog:=Ln 0 x0 fun a=>.op (.gy 2 32 [.int .i64 0,.au] a a) fun a=>.loop [.int .i64 0] (fun b=>Ln 0 x0 fun c=>Bn .lss (g b 0) c fun c=>.ite c (Ix 2 x0 (g b 0) fun c=>Ld 2 c fun c=>Cl IU [c] fun c=>Ix 2 a (g b 0) fun a=>.op (.st 2 a c) fun _=>Bn .add (g b 0) (.int .i64 1) fun a=>.leaf 0 [a]) (.leaf 2 [g b 0])) fun b c=>ak b 1 (.leaf 1 c) (ak b 2 (.fin [.val a]) .bad)
theorem aco (x0:AV):CC Tryz.prog BN [x0] (abP x0):=cc Tryz.func34 [0,3,4] (fun _=>[])
def ab3 (x0 x1:AV):Prog:=Ln 0 x0 fun a=>Ln 0 x1 fun b=>Bn .neq a b fun a=>.ite a (.fin [.val (.bool false)]) (.loop [.int .i64 0] (fun a=>Ln 0 x0 fun b=>Bn .lss (g a 0) b fun b=>.ite b (Ix 2 x0 (g a 0) fun b=>Ld 2 b fun b=>Ix 2 x1 (g a 0) fun c=>Ld 2 c fun c=>Cl IY [b,c] fun b=>.op (.una .not b) fun b=>.ite b (.fin [.val (.bool false)]) (Bn .add (g a 0) (.int .i64 1) fun a=>.leaf 0 [a])) (.leaf 2 [g a 0])) fun a b=>ak a 1 (.leaf 1 b) (ak a 2 (.fin [.val (.bool true)]) .bad))
theorem acK (x0 x1:AV):CC Tryz.prog BU [x0,x1] (ab3 x0 x1):=cc Tryz.func49 [0,1,5] (fun r=>if r=6 then[(0,[]),(1,[]),(2,[]),(3,[]),(4,[]),(5,[]),(6,[]),(7,[]),(8,[]),(9,[])] else[])
def abR (x0 x1:AV):Prog:=Ln 0 x0 fun a=>Bn .sub x1 a fun a=>Bn .lss a (.int .i64 0) fun b=>.ite b (.fin [.val (.int .i64 (-1))]) (.loop [a,.int .i64 0] (fun a=>Ln 0 x0 fun b=>Bn .lss (g a 1) b fun b=>.ite b (Ix 2 x0 (g a 1) fun b=>Ld 2 b fun b=>Cl IV [b,g a 0] fun b=>Bn .lss b (.int .i64 0) fun c=>.ite c (.fin [.val (.int .i64 (-1))]) (Bn .add (g a 1) (.int .i64 1) fun a=>.leaf 0 [b,a])) (.leaf 2 [g a 0,g a 1])) fun a b=>ak a 1 (.leaf 1 b) (ak a 2 (.fin [.val (g b 0)]) .bad))
theorem acr (x0 x1:AV):CC Tryz.prog BO [x0,x1] (abR x0 x1):=cc Tryz.func22 [0,1,5] (fun _=>[])
end
theorem adh (x:aM) (hs:Sz.sz x≤1048576):dJ aM Tryz.prog IU x:=by
 rintro cs F h ⟨v0,rfl,r0⟩
 have hs:(x.l.length+szs x.l)≤1048576:=hs
 refine ad1 _ ?_
 unfold OA
 (repeat' first|refine vs ?_|((with_reducible refine ay Cr ?_);(refine aG (lS adg ah aL) ?_;rintro _ _ ⟨e_,_,_,_⟩;have n_:=e_.1;(try simp only[aD,aN] at n_)))|fail)
 exact⟨rfl,_,rfl,aA,_,_,rfl,⟨_,rfl,ah⟩,aZ⟩
theorem adr:EqC aM Tryz.prog IY:=by
 rintro x cs cs' F F' h ⟨v0,rfl,r0⟩ ⟨u0,rfl,q0⟩
 refine reader (aed _ _) (by simp only[old]) ?_
 unfold OH
 (repeat' first|refine vs ?_|((with_reducible refine ay Cv ?_);refine aK (adq _ _ _ _ _ _ ah ah) ?_)|fail)
 exact pb rfl
theorem adk:SzC aM Tryz.prog IV:=by
 rintro x ok cs F b h ⟨v0,rfl,r0⟩ h0 h1
 obtain⟨aoa,aon⟩:=ok
 have hS:Sz.sz x=(x.l.length+szs x.l):=rfl
 refine reader (ad5 _ _) (by simp only[old]) ?_
 unfold OC
 (repeat' first|refine vs ?_|(refine br ?_ ?_<;>first|exact bo|intro _)|((with_reducible refine ay Cu ?_);(refine ig (adj _ (by assumption) _ _ _ _ ah aL aL) (fun _=>?_) (fun _=>?_)))|fail)
 all_goals(refine pi ?_;unfold szr;split<;>omega)
theorem abl (xs:List aM) (hs:xs.length+szs xs≤1048576):fI Tryz.prog BN xs:=oW rfl rfl (by decide) hs (fun x hx=>adh x hx) (fun g=>aco _ g)
theorem abz:EqS aM Tryz.prog BU:=fun xs v v' F F' h r r'=>reader (acK _ _) (by simp only[old]) (oV rfl adr r r')
theorem abn:SzL aM Tryz.prog BO:=fun xs ok v F b h r h0 h1=>reader (acr _ _) (by simp only[old]) (tO rfl adk ok r h0 h1)
end Go.Proofs.YtekfdoknfcedpaaGreat
end
section
set_option linter.unusedSimpArgs false
set_option linter.unusedVariables false
set_option maxHeartbeats 1000000
namespace Go.Proofs.YtekfdoknfcedpaaGreat
open Go Go.Ab
section
def Rb (x0:AV):Prog:=.op (.box x0) fun a=>.op (.alloc jD) fun b=>.op (.alloc jD) fun c=>Lg 0 a fun d=>Sg 0 c d fun _=>.op (.fad 1 a) fun a=>Ld 6 a fun a=>Cl oO [a] fun a=>.op (.fad 1 c) fun d=>.op (.st 6 d a) fun _=>Ld 7 c fun a=>.op (.st 7 b a) fun _=>.fin [.cn 7 b]
theorem ahx (x0:AV):CC Tryz.prog JC [x0] (Rb x0):=cc Tryz.func116
def Rq (x0 x1:AV):Prog:=.op (.box x0) fun a=>.op (.box x1) fun b=>Lg 0 a fun c=>Lg 0 b fun d=>Bn .neq c d fun c=>.ite c (.fin [.val (.bool false)]) (.op (.fad 1 a) fun a=>Ld 6 a fun a=>.op (.fad 1 b) fun b=>Ld 6 b fun b=>Cl oQ [a,b] fun a=>.op (.una .not a) fun a=>.ite a (.fin [.val (.bool false)]) (.fin [.val (.bool true)]))
theorem ahL (x0 x1:AV):CC Tryz.prog JK [x0,x1] (Rq x0 x1):=cc Tryz.func140
def Rk (x0 x1:AV):Prog:=.op (.box x0) fun a=>.op (.fad 1 a) fun a=>Ld 6 a fun a=>Cl oP [a,x1] fun a=>Bn .lss a (.int .i64 0) fun b=>.ite b (.fin [.val (.int .i64 (-1))]) (.fin [.val a])
theorem ahE (x0 x1:AV):CC Tryz.prog JG [x0,x1] (Rk x0 x1):=cc Tryz.func88
def afg (x0:AV):Prog:=Ln 0 x0 fun a=>.op (.gy 7 72 jD a a) fun a=>.loop [.int .i64 0] (fun b=>Ln 0 x0 fun c=>Bn .lss (g b 0) c fun c=>.ite c (Ix 7 x0 (g b 0) fun c=>Ld 7 c fun c=>Cl JC [c] fun c=>Ix 7 a (g b 0) fun a=>.op (.st 7 a c) fun _=>Bn .add (g b 0) (.int .i64 1) fun a=>.leaf 0 [a]) (.leaf 2 [g b 0])) fun b c=>ak b 1 (.leaf 1 c) (ak b 2 (.fin [.val a]) .bad)
theorem afV (x0:AV):CC Tryz.prog sN [x0] (afg x0):=cc Tryz.func39 [0,3,4] (fun _=>[])
def afq (x0 x1:AV):Prog:=Ln 0 x0 fun a=>Ln 0 x1 fun b=>Bn .neq a b fun a=>.ite a (.fin [.val (.bool false)]) (.loop [.int .i64 0] (fun a=>Ln 0 x0 fun b=>Bn .lss (g a 0) b fun b=>.ite b (Ix 7 x0 (g a 0) fun b=>Ld 7 b fun b=>Ix 7 x1 (g a 0) fun c=>Ld 7 c fun c=>Cl JK [b,c] fun b=>.op (.una .not b) fun b=>.ite b (.fin [.val (.bool false)]) (Bn .add (g a 0) (.int .i64 1) fun a=>.leaf 0 [a])) (.leaf 2 [g a 0])) fun a b=>ak a 1 (.leaf 1 b) (ak a 2 (.fin [.val (.bool true)]) .bad))
theorem agh (x0 x1:AV):CC Tryz.prog sP [x0,x1] (afq x0 x1):=cc Tryz.func54 [0,1,5] (fun r=>if r=6 then[(0,[]),(1,[]),(2,[]),(3,[]),(4,[]),(5,[]),(6,[]),(7,[]),(8,[]),(9,[])] else[])
def afl (x0 x1:AV):Prog:=Ln 0 x0 fun a=>Bn .sub x1 a fun a=>Bn .lss a (.int .i64 0) fun b=>.ite b (.fin [.val (.int .i64 (-1))]) (.loop [a,.int .i64 0] (fun a=>Ln 0 x0 fun b=>Bn .lss (g a 1) b fun b=>.ite b (Ix 7 x0 (g a 1) fun b=>Ld 7 b fun b=>Cl JG [b,g a 0] fun b=>Bn .lss b (.int .i64 0) fun c=>.ite c (.fin [.val (.int .i64 (-1))]) (Bn .add (g a 1) (.int .i64 1) fun a=>.leaf 0 [b,a])) (.leaf 2 [g a 0,g a 1])) fun a b=>ak a 1 (.leaf 1 b) (ak a 2 (.fin [.val (g b 0)]) .bad))
theorem af4 (x0 x1:AV):CC Tryz.prog sO [x0,x1] (afl x0 x1):=cc Tryz.func26 [0,1,5] (fun _=>[])
end
theorem agK (x:Itm) (hs:Sz.sz x≤1048576):dJ Itm Tryz.prog JC x:=by
 rintro cs F h ⟨v0,rfl,r0⟩
 have hs:Sz.sz x.s≤1048576:=hs
 have e_s:Sz.sz x.s=(x.s.attrs.length+szs x.s.attrs):=rfl
 refine ahx _ ?_
 unfold Rb
 (repeat' first|refine vs ?_|((with_reducible refine ay oO ?_);(refine aG (DN _ aL _ _ _ ⟨_,rfl,ah⟩) ?_;rintro _ _ ⟨e_,_,_,rfl,⟨_,rfl,_⟩,_⟩;have n_:=e_.1;(try simp only[aD,aN] at n_)))|fail)
 exact⟨rfl,_,rfl,aA,_,_,rfl,⟨_,rfl,ah⟩,aZ⟩
theorem agU:EqC Itm Tryz.prog JK:=by
 rintro x cs cs' F F' h ⟨v0,rfl,r0⟩ ⟨u0,rfl,q0⟩
 refine reader (ahL _ _) (by simp only[old]) ?_
 unfold Rq
 (repeat' first|refine vs ?_|((with_reducible refine ay oQ ?_);refine aK (DT _ _ _ _ _ _ ⟨_,rfl,ah⟩ ⟨_,rfl,ah⟩) ?_)|fail)
 exact pb rfl
theorem agP:SzC Itm Tryz.prog JG:=by
 rintro x ok cs F b h ⟨v0,rfl,r0⟩ h0 h1
 obtain⟨zG,xX⟩:=ok
 have hS:Sz.sz x=Sz.sz x.s:=rfl
 have e_s:Sz.sz x.s=(x.s.attrs.length+szs x.s.attrs):=rfl
 refine reader (ahE _ _) (by simp only[old]) ?_
 unfold Rk
 (repeat' first|refine vs ?_|(refine br ?_ ?_<;>first|exact bo|intro _)|((with_reducible refine ay oP ?_);(refine ig (DR _ (by assumption) _ _ _ _ ⟨_,rfl,ah⟩ aL aL) (fun _=>?_) (fun _=>?_)))|fail)
 all_goals(refine pi ?_;unfold szr;split<;>omega)
theorem Pg (xs:List Itm) (hs:xs.length+szs xs≤1048576):fI Tryz.prog sN xs:=oW rfl rfl (by decide) hs (fun x hx=>agK x hx) (fun g=>afV _ g)
theorem Pj:EqS Itm Tryz.prog sP:=fun xs v v' F F' h r r'=>reader (agh _ _) (by simp only[old]) (oV rfl agU r r')
theorem Ph:SzL Itm Tryz.prog sO:=fun xs ok v F b h r h0 h1=>reader (af4 _ _) (by simp only[old]) (tO rfl agP ok r h0 h1)
end Go.Proofs.YtekfdoknfcedpaaGreat
end
section
set_option linter.unusedSimpArgs false
set_option linter.unusedVariables false
set_option maxHeartbeats 1000000
namespace Go.Proofs.YtekfdoknfcedpaaGreat
open Go Go.Ab
section
def Q9 (x0:AV):Prog:=.op (.box x0) fun a=>.op (.alloc gX) fun b=>.op (.alloc gX) fun c=>Lg 0 a fun d=>Sg 0 c d fun _=>Lg 1 a fun d=>Sg 1 c d fun _=>.op (.fad 2 a) fun d=>Ld 6 d fun d=>Cl oO [d] fun d=>.op (.fad 2 c) fun e=>.op (.st 6 e d) fun _=>Lg 8 a fun d=>Sg 8 c d fun _=>Lg 9 a fun d=>Sg 9 c d fun _=>Lg 10 a fun d=>Cl sN [d] fun d=>Sg 10 c d fun _=>Lg 11 a fun a=>Sg 11 c a fun _=>Ld 12 c fun a=>.op (.st 12 b a) fun _=>.fin [.cn 12 b]
theorem ahu (x0:AV):CC Tryz.prog JB [x0] (Q9 x0):=cc Tryz.func117
def Ro (x0 x1:AV):Prog:=.op (.box x0) fun a=>.op (.box x1) fun b=>Lg 0 a fun c=>Lg 0 b fun d=>Bn .neq c d fun c=>.ite c (.fin [.val (.bool false)]) (Lg 1 a fun c=>Lg 1 b fun d=>Bn .neq c d fun c=>.ite c (.fin [.val (.bool false)]) (.op (.fad 2 a) fun c=>Ld 6 c fun c=>.op (.fad 2 b) fun d=>Ld 6 d fun d=>Cl oQ [c,d] fun c=>.op (.una .not c) fun c=>.ite c (.fin [.val (.bool false)]) (Lg 8 a fun c=>Lg 8 b fun d=>Bn .neq c d fun c=>.ite c (.fin [.val (.bool false)]) (Lg 9 a fun c=>Lg 9 b fun d=>Bn .neq c d fun c=>.ite c (.fin [.val (.bool false)]) (Lg 10 a fun c=>Lg 10 b fun d=>Cl sP [c,d] fun c=>.op (.una .not c) fun c=>.ite c (.fin [.val (.bool false)]) (Lg 11 a fun a=>Lg 11 b fun b=>Bn .neq a b fun a=>.ite a (.fin [.val (.bool false)]) (.fin [.val (.bool true)])))))))
theorem ahI (x0 x1:AV):CC Tryz.prog JJ [x0,x1] (Ro x0 x1):=cc Tryz.func141
def Ri (x0 x1:AV):Prog:=.op (.box x0) fun a=>.op (.fad 2 a) fun b=>Ld 6 b fun b=>Cl oP [b,x1] fun b=>Bn .lss b (.int .i64 0) fun c=>.ite c (.fin [.val (.int .i64 (-1))]) (Lg 10 a fun a=>Cl sO [a,b] fun a=>Bn .lss a (.int .i64 0) fun b=>.ite b (.fin [.val (.int .i64 (-1))]) (.fin [.val a]))
theorem ahB (x0 x1:AV):CC Tryz.prog JF [x0,x1] (Ri x0 x1):=cc Tryz.func89
end
theorem agJ (x:Task) (hs:Sz.sz x≤1048576):dJ Task Tryz.prog JB x:=by
 rintro cs F h ⟨v0,v1,F0,F1,rfl,rfl,r0,r1⟩
 have hs:Sz.sz x.s+(x.hand.length+szs x.hand)≤1048576:=hs
 have e_s:Sz.sz x.s=(x.s.attrs.length+szs x.s.attrs):=rfl
 refine ahu _ ?_
 unfold Q9
 (repeat' first|refine vs ?_|((with_reducible refine ay oO ?_);(refine aG (DN _ aL _ _ _ ⟨_,rfl,ah⟩) ?_;rintro _ _ ⟨e_,_,_,rfl,⟨_,rfl,_⟩,_⟩;have n_:=e_.1;(try simp only[aD,aN] at n_)))|((with_reducible refine ay sN ?_);(refine aG (lS Pg ah aL) ?_;rintro _ _ ⟨e_,_,_,_⟩;have n_:=e_.1;(try simp only[aD,aN] at n_)))|fail)
 exact⟨rfl,_,rfl,aA,_,_,rfl,⟨_,_,_,_,rfl,rfl,ah,ah⟩,(dA bT bT jy).1⟩
theorem agT:EqC Task Tryz.prog JJ:=by
 rintro x cs cs' F F' h ⟨v0,v1,F0,F1,rfl,rfl,r0,r1⟩ ⟨u0,u1,G0,G1,rfl,rfl,q0,q1⟩
 refine reader (ahI _ _) (by simp only[old]) ?_
 unfold Ro
 (repeat' first|refine vs ?_|((with_reducible refine ay oQ ?_);refine aK (DT _ _ _ _ _ _ ⟨_,rfl,ah⟩ ⟨_,rfl,ah⟩) ?_)|((with_reducible refine ay sP ?_);refine aK (Pj _ _ _ _ _ _ ah ah) ?_)|fail)
 exact pb rfl
theorem agO:SzC Task Tryz.prog JF:=by
 rintro x ok cs F b h ⟨v0,v1,F0,F1,rfl,rfl,r0,r1⟩ h0 h1
 obtain⟨Lv,WG,xX,EH,zG,EY,XC⟩:=ok
 have hS:Sz.sz x=Sz.sz x.s+(x.hand.length+szs x.hand):=rfl
 have e_s:Sz.sz x.s=(x.s.attrs.length+szs x.s.attrs):=rfl
 refine reader (ahB _ _) (by simp only[old]) ?_
 unfold Ri
 (repeat' first|refine vs ?_|(refine br ?_ ?_<;>first|exact bo|intro _)|((with_reducible refine ay oP ?_);(refine ig (DR _ (by assumption) _ _ _ _ ⟨_,rfl,ah⟩ aL aL) (fun _=>?_) (fun _=>?_)))|((with_reducible refine ay sO ?_);(refine ig (szl Ph ah (by assumption) aL aL) (fun _=>?_) (fun _=>?_)))|fail)
 all_goals(refine pi ?_;unfold szr;split<;>omega)
end Go.Proofs.YtekfdoknfcedpaaGreat
end
section
set_option linter.unusedSimpArgs false
set_option linter.unusedVariables false
set_option maxHeartbeats 1000000
namespace Go.Proofs.YtekfdoknfcedpaaGreat
open Go Go.Ab
section
def afe (x0:AV):Prog:=Ln 0 x0 fun a=>.op (.gy 12 128 gX a a) fun a=>.loop [.int .i64 0] (fun b=>Ln 0 x0 fun c=>Bn .lss (g b 0) c fun c=>.ite c (Ix 12 x0 (g b 0) fun c=>Ld 12 c fun c=>Cl JB [c] fun c=>Ix 12 a (g b 0) fun a=>.op (.st 12 a c) fun _=>Bn .add (g b 0) (.int .i64 1) fun a=>.leaf 0 [a]) (.leaf 2 [g b 0])) fun b c=>ak b 1 (.leaf 1 c) (ak b 2 (.fin [.val a]) .bad)
theorem afT (x0:AV):CC Tryz.prog Dc [x0] (afe x0):=cc Tryz.func40 [0,3,4] (fun _=>[])
def afo (x0 x1:AV):Prog:=Ln 0 x0 fun a=>Ln 0 x1 fun b=>Bn .neq a b fun a=>.ite a (.fin [.val (.bool false)]) (.loop [.int .i64 0] (fun a=>Ln 0 x0 fun b=>Bn .lss (g a 0) b fun b=>.ite b (Ix 12 x0 (g a 0) fun b=>Ld 12 b fun b=>Ix 12 x1 (g a 0) fun c=>Ld 12 c fun c=>Cl JJ [b,c] fun b=>.op (.una .not b) fun b=>.ite b (.fin [.val (.bool false)]) (Bn .add (g a 0) (.int .i64 1) fun a=>.leaf 0 [a])) (.leaf 2 [g a 0])) fun a b=>ak a 1 (.leaf 1 b) (ak a 2 (.fin [.val (.bool true)]) .bad))
theorem agd (x0 x1:AV):CC Tryz.prog Dt [x0,x1] (afo x0 x1):=cc Tryz.func55 [0,1,5] (fun r=>if r=6 then[(0,[]),(1,[]),(2,[]),(3,[]),(4,[]),(5,[]),(6,[]),(7,[]),(8,[]),(9,[])] else[])
def afj (x0 x1:AV):Prog:=Ln 0 x0 fun a=>Bn .sub x1 a fun a=>Bn .lss a (.int .i64 0) fun b=>.ite b (.fin [.val (.int .i64 (-1))]) (.loop [a,.int .i64 0] (fun a=>Ln 0 x0 fun b=>Bn .lss (g a 1) b fun b=>.ite b (Ix 12 x0 (g a 1) fun b=>Ld 12 b fun b=>Cl JF [b,g a 0] fun b=>Bn .lss b (.int .i64 0) fun c=>.ite c (.fin [.val (.int .i64 (-1))]) (Bn .add (g a 1) (.int .i64 1) fun a=>.leaf 0 [b,a])) (.leaf 2 [g a 0,g a 1])) fun a b=>ak a 1 (.leaf 1 b) (ak a 2 (.fin [.val (g b 0)]) .bad))
theorem af2 (x0 x1:AV):CC Tryz.prog Dl [x0,x1] (afj x0 x1):=cc Tryz.func27 [0,1,5] (fun _=>[])
end
theorem aeN (xs:List Task) (hs:xs.length+szs xs≤1048576):fI Tryz.prog Dc xs:=oW rfl rfl (by decide) hs (fun x hx=>agJ x hx) (fun g=>afT _ g)
theorem ae3:EqS Task Tryz.prog Dt:=fun xs v v' F F' h r r'=>reader (agd _ _) (by simp only[old]) (oV rfl agT r r')
theorem aeU:SzL Task Tryz.prog Dl:=fun xs ok v F b h r h0 h1=>reader (af2 _ _) (by simp only[old]) (tO rfl agO ok r h0 h1)
end Go.Proofs.YtekfdoknfcedpaaGreat
end
section
set_option linter.unusedSimpArgs false
set_option linter.unusedVariables false
set_option maxHeartbeats 1000000
namespace Go.Proofs.YtekfdoknfcedpaaGreat
open Go Go.Ab
section
def Rc (x0:AV):Prog:=.op (.box x0) fun a=>.op (.alloc jf) fun b=>.op (.alloc jf) fun c=>Lg 0 a fun d=>Sg 0 c d fun _=>Lg 1 a fun d=>Sg 1 c d fun _=>.op (.fad 2 a) fun d=>Ld 6 d fun d=>Cl oO [d] fun d=>.op (.fad 2 c) fun e=>.op (.st 6 e d) fun _=>Lg 8 a fun d=>Sg 8 c d fun _=>Lg 9 a fun d=>Sg 9 c d fun _=>Lg 10 a fun d=>Sg 10 c d fun _=>Lg 11 a fun d=>Sg 11 c d fun _=>Lg 12 a fun d=>Sg 12 c d fun _=>Lg 13 a fun d=>Sg 13 c d fun _=>Lg 14 a fun d=>Sg 14 c d fun _=>Lg 15 a fun d=>Sg 15 c d fun _=>Lg 16 a fun d=>Sg 16 c d fun _=>Lg 17 a fun d=>Sg 17 c d fun _=>Lg 18 a fun d=>Sg 18 c d fun _=>Lg 19 a fun a=>Sg 19 c a fun _=>Ld 20 c fun a=>.op (.st 20 b a) fun _=>.fin [.cn 20 b]
theorem ahy (x0:AV):CC Tryz.prog JD [x0] (Rc x0):=cc Tryz.func118
def Rs (x0 x1:AV):Prog:=.op (.box x0) fun a=>.op (.box x1) fun b=>Lg 0 a fun c=>Lg 0 b fun d=>Bn .neq c d fun c=>.ite c (.fin [.val (.bool false)]) (Lg 1 a fun c=>Lg 1 b fun d=>Bn .neq c d fun c=>.ite c (.fin [.val (.bool false)]) (.op (.fad 2 a) fun c=>Ld 6 c fun c=>.op (.fad 2 b) fun d=>Ld 6 d fun d=>Cl oQ [c,d] fun c=>.op (.una .not c) fun c=>.ite c (.fin [.val (.bool false)]) (Lg 8 a fun c=>Lg 8 b fun d=>Bn .neq c d fun c=>.ite c (.fin [.val (.bool false)]) (Lg 9 a fun c=>Lg 9 b fun d=>Bn .neq c d fun c=>.ite c (.fin [.val (.bool false)]) (Lg 10 a fun c=>Lg 10 b fun d=>Bn .neq c d fun c=>.ite c (.fin [.val (.bool false)]) (Lg 11 a fun c=>Lg 11 b fun d=>.op (.bin 2 .neq c d) fun c=>.ite c (.fin [.val (.bool false)]) (Lg 12 a fun c=>Lg 12 b fun d=>.op (.bin 2 .neq c d) fun c=>.ite c (.fin [.val (.bool false)]) (Lg 13 a fun c=>Lg 13 b fun d=>Bn .neq c d fun c=>.ite c (.fin [.val (.bool false)]) (Lg 14 a fun c=>Lg 14 b fun d=>Bn .neq c d fun c=>.ite c (.fin [.val (.bool false)]) (Lg 15 a fun c=>Lg 15 b fun d=>Bn .neq c d fun c=>.ite c (.fin [.val (.bool false)]) (Lg 16 a fun c=>Lg 16 b fun d=>Bn .neq c d fun c=>.ite c (.fin [.val (.bool false)]) (Lg 17 a fun c=>Lg 17 b fun d=>Bn .neq c d fun c=>.ite c (.fin [.val (.bool false)]) (Lg 18 a fun c=>Lg 18 b fun d=>Bn .neq c d fun c=>.ite c (.fin [.val (.bool false)]) (Lg 19 a fun a=>Lg 19 b fun b=>Bn .neq a b fun a=>.ite a (.fin [.val (.bool false)]) (.fin [.val (.bool true)])))))))))))))))
theorem ahM (x0 x1:AV):CC Tryz.prog JL [x0,x1] (Rs x0 x1):=cc Tryz.func142
def Rl (x0 x1:AV):Prog:=.op (.box x0) fun a=>.op (.fad 2 a) fun a=>Ld 6 a fun a=>Cl oP [a,x1] fun a=>Bn .lss a (.int .i64 0) fun b=>.ite b (.fin [.val (.int .i64 (-1))]) (.fin [.val a])
theorem ahF (x0 x1:AV):CC Tryz.prog JH [x0,x1] (Rl x0 x1):=cc Tryz.func90
end
theorem agL (x:bV) (hs:Sz.sz x≤1048576):dJ bV Tryz.prog JD x:=by
 rintro cs F h ⟨v0,rfl,r0⟩
 have hs:Sz.sz x.s≤1048576:=hs
 have e_s:Sz.sz x.s=(x.s.attrs.length+szs x.s.attrs):=rfl
 refine ahy _ ?_
 unfold Rc
 (repeat' first|refine vs ?_|((with_reducible refine ay oO ?_);(refine aG (DN _ aL _ _ _ ⟨_,rfl,ah⟩) ?_;rintro _ _ ⟨e_,_,_,rfl,⟨_,rfl,_⟩,_⟩;have n_:=e_.1;(try simp only[aD,aN] at n_)))|fail)
 exact⟨rfl,_,rfl,aA,_,_,rfl,⟨_,rfl,ah⟩,aZ⟩
theorem agV:EqC bV Tryz.prog JL:=by
 rintro x cs cs' F F' h ⟨v0,rfl,r0⟩ ⟨u0,rfl,q0⟩
 refine reader (ahM _ _) (by simp only[old]) ?_
 unfold Rs
 (repeat' first|refine vs ?_|((with_reducible refine ay oQ ?_);refine aK (DT _ _ _ _ _ _ ⟨_,rfl,ah⟩ ⟨_,rfl,ah⟩) ?_)|fail)
 exact pb rfl
theorem agQ:SzC bV Tryz.prog JH:=by
 rintro x ok cs F b h ⟨v0,rfl,r0⟩ h0 h1
 obtain⟨Lv,an5,xX,EH,zG,aob,an4,ani,anW,alX,aoe,aod,aoc⟩:=ok
 have hS:Sz.sz x=Sz.sz x.s:=rfl
 have e_s:Sz.sz x.s=(x.s.attrs.length+szs x.s.attrs):=rfl
 refine reader (ahF _ _) (by simp only[old]) ?_
 unfold Rl
 (repeat' first|refine vs ?_|(refine br ?_ ?_<;>first|exact bo|intro _)|((with_reducible refine ay oP ?_);(refine ig (DR _ (by assumption) _ _ _ _ ⟨_,rfl,ah⟩ aL aL) (fun _=>?_) (fun _=>?_)))|fail)
 all_goals(refine pi ?_;unfold szr;split<;>omega)
end Go.Proofs.YtekfdoknfcedpaaGreat
end
section
set_option linter.unusedSimpArgs false
set_option linter.unusedVariables false
set_option maxHeartbeats 1000000
namespace Go.Proofs.YtekfdoknfcedpaaGreat
open Go Go.Ab
section
def afh (x0:AV):Prog:=Ln 0 x0 fun a=>.op (.gy 20 168 jf a a) fun a=>.loop [.int .i64 0] (fun b=>Ln 0 x0 fun c=>Bn .lss (g b 0) c fun c=>.ite c (Ix 20 x0 (g b 0) fun c=>Ld 20 c fun c=>Cl JD [c] fun c=>Ix 20 a (g b 0) fun a=>.op (.st 20 a c) fun _=>Bn .add (g b 0) (.int .i64 1) fun a=>.leaf 0 [a]) (.leaf 2 [g b 0])) fun b c=>ak b 1 (.leaf 1 c) (ak b 2 (.fin [.val a]) .bad)
theorem afW (x0:AV):CC Tryz.prog Dh [x0] (afh x0):=cc Tryz.func41 [0,3,4] (fun _=>[])
def afr (x0 x1:AV):Prog:=Ln 0 x0 fun a=>Ln 0 x1 fun b=>Bn .neq a b fun a=>.ite a (.fin [.val (.bool false)]) (.loop [.int .i64 0] (fun a=>Ln 0 x0 fun b=>Bn .lss (g a 0) b fun b=>.ite b (Ix 20 x0 (g a 0) fun b=>Ld 20 b fun b=>Ix 20 x1 (g a 0) fun c=>Ld 20 c fun c=>Cl JL [b,c] fun b=>.op (.una .not b) fun b=>.ite b (.fin [.val (.bool false)]) (Bn .add (g a 0) (.int .i64 1) fun a=>.leaf 0 [a])) (.leaf 2 [g a 0])) fun a b=>ak a 1 (.leaf 1 b) (ak a 2 (.fin [.val (.bool true)]) .bad))
theorem agi (x0 x1:AV):CC Tryz.prog Dv [x0,x1] (afr x0 x1):=cc Tryz.func56 [0,1,5] (fun r=>if r=6 then[(0,[]),(1,[]),(2,[]),(3,[]),(4,[]),(5,[]),(6,[]),(7,[]),(8,[]),(9,[])] else[])
def afm (x0 x1:AV):Prog:=Ln 0 x0 fun a=>Bn .sub x1 a fun a=>Bn .lss a (.int .i64 0) fun b=>.ite b (.fin [.val (.int .i64 (-1))]) (.loop [a,.int .i64 0] (fun a=>Ln 0 x0 fun b=>Bn .lss (g a 1) b fun b=>.ite b (Ix 20 x0 (g a 1) fun b=>Ld 20 b fun b=>Cl JH [b,g a 0] fun b=>Bn .lss b (.int .i64 0) fun c=>.ite c (.fin [.val (.int .i64 (-1))]) (Bn .add (g a 1) (.int .i64 1) fun a=>.leaf 0 [b,a])) (.leaf 2 [g a 0,g a 1])) fun a b=>ak a 1 (.leaf 1 b) (ak a 2 (.fin [.val (g b 0)]) .bad))
theorem af5 (x0 x1:AV):CC Tryz.prog Dn [x0,x1] (afm x0 x1):=cc Tryz.func28 [0,1,5] (fun _=>[])
end
theorem aeP (xs:List bV) (hs:xs.length+szs xs≤1048576):fI Tryz.prog Dh xs:=oW rfl rfl (by decide) hs (fun x hx=>agL x hx) (fun g=>afW _ g)
theorem ae5:EqS bV Tryz.prog Dv:=fun xs v v' F F' h r r'=>reader (agi _ _) (by simp only[old]) (oV rfl agV r r')
theorem aeW:SzL bV Tryz.prog Dn:=fun xs ok v F b h r h0 h1=>reader (af5 _ _) (by simp only[old]) (tO rfl agQ ok r h0 h1)
end Go.Proofs.YtekfdoknfcedpaaGreat
end
section
set_option linter.unusedSimpArgs false
set_option linter.unusedVariables false
set_option maxHeartbeats 1000000
namespace Go.Proofs.YtekfdoknfcedpaaGreat
open Go Go.Ab
section
def abO (x0:AV):Prog:=Ln 0 x0 fun a=>.op (.gy 1 24 [.au] a a) fun a=>.loop [.int .i64 0] (fun b=>Ln 0 x0 fun c=>Bn .lss (g b 0) c fun c=>.ite c (Ix 1 x0 (g b 0) fun c=>.op (.ld1 c) fun c=>Cl sH [c] fun c=>Ix 1 a (g b 0) fun a=>.op (.st 1 a c) fun _=>Bn .add (g b 0) (.int .i64 1) fun a=>.leaf 0 [a]) (.leaf 2 [g b 0])) fun b c=>ak b 1 (.leaf 1 c) (ak b 2 (.fin [.val a]) .bad)
theorem acn (x0:AV):CC Tryz.prog yE [x0] (abO x0):=cc Tryz.func114 [0,3,4] (fun _=>[])
def ab2 (x0 x1:AV):Prog:=Ln 0 x0 fun a=>Ln 0 x1 fun b=>Bn .neq a b fun a=>.ite a (.fin [.val (.bool false)]) (.loop [.int .i64 0] (fun a=>Ln 0 x0 fun b=>Bn .lss (g a 0) b fun b=>.ite b (Ix 1 x0 (g a 0) fun b=>.op (.ld1 b) fun b=>Ix 1 x1 (g a 0) fun c=>.op (.ld1 c) fun c=>Cl sJ [b,c] fun b=>.op (.una .not b) fun b=>.ite b (.fin [.val (.bool false)]) (Bn .add (g a 0) (.int .i64 1) fun a=>.leaf 0 [a])) (.leaf 2 [g a 0])) fun a b=>ak a 1 (.leaf 1 b) (ak a 2 (.fin [.val (.bool true)]) .bad))
theorem acJ (x0 x1:AV):CC Tryz.prog yG [x0,x1] (ab2 x0 x1):=cc Tryz.func138 [0,1,5] (fun r=>if r=6 then[(0,[]),(1,[]),(2,[]),(3,[]),(4,[]),(5,[]),(6,[]),(7,[]),(8,[]),(9,[])] else[])
def abQ (x0 x1:AV):Prog:=Ln 0 x0 fun a=>Bn .sub x1 a fun a=>Bn .lss a (.int .i64 0) fun b=>.ite b (.fin [.val (.int .i64 (-1))]) (.loop [a,.int .i64 0] (fun a=>Ln 0 x0 fun b=>Bn .lss (g a 1) b fun b=>.ite b (Ix 1 x0 (g a 1) fun b=>.op (.ld1 b) fun b=>Cl sI [b,g a 0] fun b=>Bn .lss b (.int .i64 0) fun c=>.ite c (.fin [.val (.int .i64 (-1))]) (Bn .add (g a 1) (.int .i64 1) fun a=>.leaf 0 [b,a])) (.leaf 2 [g a 0,g a 1])) fun a b=>ak a 1 (.leaf 1 b) (ak a 2 (.fin [.val (g b 0)]) .bad))
theorem acp (x0 x1:AV):CC Tryz.prog yF [x0,x1] (abQ x0 x1):=cc Tryz.func87 [0,1,5] (fun _=>[])
def Qa (x0:AV):Prog:=.op (.box x0) fun a=>.op (.alloc [.int .i64 0,.int .i64 0,.int .i64 0]) fun b=>.op (.alloc [.int .i64 0,.int .i64 0,.int .i64 0]) fun c=>Lg 0 a fun d=>Sg 0 c d fun _=>Lg 1 a fun d=>Sg 1 c d fun _=>Lg 2 a fun a=>Sg 2 c a fun _=>Ld 3 c fun a=>.op (.st 3 b a) fun _=>.fin [.cn 3 b]
theorem afS (x0:AV):CC Tryz.prog Jk [x0] (Qa x0):=cc Tryz.func115
def Qj (x0 x1:AV):Prog:=.op (.box x0) fun a=>.op (.box x1) fun b=>Lg 0 a fun c=>Lg 0 b fun d=>Bn .neq c d fun c=>.ite c (.fin [.val (.bool false)]) (Lg 1 a fun c=>Lg 1 b fun d=>Bn .neq c d fun c=>.ite c (.fin [.val (.bool false)]) (Lg 2 a fun a=>Lg 2 b fun b=>Bn .neq a b fun a=>.ite a (.fin [.val (.bool false)]) (.fin [.val (.bool true)])))
theorem agc (x0 x1:AV):CC Tryz.prog Jp [x0,x1] (Qj x0 x1):=cc Tryz.func139
def adG (x0:AV):Prog:=Ln 0 x0 fun a=>.op (.gy 3 24 [.int .i64 0,.int .i64 0,.int .i64 0] a a) fun a=>.loop [.int .i64 0] (fun b=>Ln 0 x0 fun c=>Bn .lss (g b 0) c fun c=>.ite c (Ix 3 x0 (g b 0) fun c=>Ld 3 c fun c=>Cl Jk [c] fun c=>Ix 3 a (g b 0) fun a=>.op (.st 3 a c) fun _=>Bn .add (g b 0) (.int .i64 1) fun a=>.leaf 0 [a]) (.leaf 2 [g b 0])) fun b c=>ak b 1 (.leaf 1 c) (ak b 2 (.fin [.val a]) .bad)
theorem adZ (x0:AV):CC Tryz.prog sH [x0] (adG x0):=cc Tryz.func38 [0,3,4] (fun _=>[])
def adM (x0 x1:AV):Prog:=Ln 0 x0 fun a=>Ln 0 x1 fun b=>Bn .neq a b fun a=>.ite a (.fin [.val (.bool false)]) (.loop [.int .i64 0] (fun a=>Ln 0 x0 fun b=>Bn .lss (g a 0) b fun b=>.ite b (Ix 3 x0 (g a 0) fun b=>Ld 3 b fun b=>Ix 3 x1 (g a 0) fun c=>Ld 3 c fun c=>Cl Jp [b,c] fun b=>.op (.una .not b) fun b=>.ite b (.fin [.val (.bool false)]) (Bn .add (g a 0) (.int .i64 1) fun a=>.leaf 0 [a])) (.leaf 2 [g a 0])) fun a b=>ak a 1 (.leaf 1 b) (ak a 2 (.fin [.val (.bool true)]) .bad))
theorem aec (x0 x1:AV):CC Tryz.prog sJ [x0,x1] (adM x0 x1):=cc Tryz.func53 [0,1,5] (fun r=>if r=6 then[(0,[]),(1,[]),(2,[]),(3,[]),(4,[]),(5,[]),(6,[]),(7,[]),(8,[]),(9,[])] else[])
def adI (x0 x1:AV):Prog:=Ln 0 x0 fun a=>Bn .sub x1 a fun a=>Bn .lss a (.int .i64 0) fun b=>.ite b (.fin [.val (.int .i64 (-1))]) (.fin [.val a])
theorem ad4 (x0 x1:AV):CC Tryz.prog sI [x0,x1] (adI x0 x1):=cc Tryz.func25
end
theorem aeM (x:Ab.Timer) (hs:Sz.sz x≤1048576):dJ Ab.Timer Tryz.prog Jk x:=by
 rintro cs F h ⟨rfl,rfl⟩
 have hs:0≤1048576:=hs
 refine afS _ ?_
 unfold Qa
 (repeat' first|refine vs ?_|fail)
 exact⟨rfl,_,rfl,aA,_,_,rfl,⟨rfl,rfl⟩,Own.nil⟩
theorem ae2:EqC Ab.Timer Tryz.prog Jp:=by
 rintro x cs cs' F F' h ⟨rfl,rfl⟩ ⟨rfl,rfl⟩
 refine reader (agc _ _) (by simp only[old]) ?_
 unfold Qj
 (repeat' first|refine vs ?_|fail)
 exact pb rfl
theorem IE (xs:List Ab.Timer) (hs:xs.length+szs xs≤1048576):fI Tryz.prog sH xs:=oW rfl rfl (by decide) hs (fun x hx=>aeM x hx) (fun g=>adZ _ g)
theorem II:EqS Ab.Timer Tryz.prog sJ:=fun xs v v' F F' h r r'=>reader (aec _ _) (by simp only[old]) (oV rfl ae2 r r')
theorem IG:SzL Ab.Timer Tryz.prog sI:=fun xs _ v F b h r h0 h1=>reader (ad4 _ _) (by simp only[old]) (by have:=T9 (P:=Tryz.prog) r h0 h1;rw[KA (fun _=>rfl)];exact this)
theorem abk (xs:List (List Ab.Timer)) (hs:xs.length+szs xs≤1048576):fI Tryz.prog yE xs:=fun v F h r=>acn _ (toSS_spec (w:=1) rfl rfl rfl (fun x hx=>IE x (by have:=bf hx;have h2:Sz.sz x=x.length+szs x:=rfl;omega)) r (by omega))
theorem aby:EqS (List Ab.Timer) Tryz.prog yG:=fun xs v v' F F' h r r'=>reader (acJ _ _) (by simp only[old]) (ajQ II r r')
theorem abm:SzL (List Ab.Timer) Tryz.prog yF:=fun xs ok v F b h r h0 h1=>reader (acp _ _) (by simp only[old]) (ajx IG ok r h0 h1)
end Go.Proofs.YtekfdoknfcedpaaGreat
end
section
set_option linter.unusedSimpArgs false
set_option linter.unusedVariables false
set_option maxHeartbeats 1000000
namespace Go.Proofs.YtekfdoknfcedpaaGreat
open Go Go.Ab
section
def P8 (x0:AV):Prog:=.op (.box x0) fun a=>.op (.alloc [.int .i64 0,.au,.au,.au]) fun b=>.op (.alloc [.int .i64 0,.au,.au,.au]) fun c=>Lg 0 a fun d=>Sg 0 c d fun _=>Lg 1 a fun d=>Cl yE [d] fun d=>Sg 1 c d fun _=>Lg 2 a fun d=>Cl yE [d] fun d=>Sg 2 c d fun _=>Lg 3 a fun a=>Cl sH [a] fun a=>Sg 3 c a fun _=>Ld 4 c fun a=>.op (.st 4 b a) fun _=>.fin [.cn 4 b]
theorem afQ (x0:AV):CC Tryz.prog Db [x0] (P8 x0):=cc Tryz.func37
def Qh (x0 x1:AV):Prog:=.op (.box x0) fun a=>.op (.box x1) fun b=>Lg 0 a fun c=>Lg 0 b fun d=>Bn .neq c d fun c=>.ite c (.fin [.val (.bool false)]) (Lg 1 a fun c=>Lg 1 b fun d=>Cl yG [c,d] fun c=>.op (.una .not c) fun c=>.ite c (.fin [.val (.bool false)]) (Lg 2 a fun c=>Lg 2 b fun d=>Cl yG [c,d] fun c=>.op (.una .not c) fun c=>.ite c (.fin [.val (.bool false)]) (Lg 3 a fun a=>Lg 3 b fun b=>Cl sJ [a,b] fun a=>.op (.una .not a) fun a=>.ite a (.fin [.val (.bool false)]) (.fin [.val (.bool true)]))))
theorem aga (x0 x1:AV):CC Tryz.prog Dr [x0,x1] (Qh x0 x1):=cc Tryz.func52
def Qc (x0 x1:AV):Prog:=.op (.box x0) fun a=>Lg 1 a fun b=>Cl yF [b,x1] fun b=>Bn .lss b (.int .i64 0) fun c=>.ite c (.fin [.val (.int .i64 (-1))]) (Lg 2 a fun c=>Cl yF [c,b] fun b=>Bn .lss b (.int .i64 0) fun c=>.ite c (.fin [.val (.int .i64 (-1))]) (Lg 3 a fun a=>Cl sI [a,b] fun a=>Bn .lss a (.int .i64 0) fun b=>.ite b (.fin [.val (.int .i64 (-1))]) (.fin [.val a])))
theorem afZ (x0 x1:AV):CC Tryz.prog Dk [x0,x1] (Qc x0 x1):=cc Tryz.func24
end
theorem aeK (x:bD) (hs:Sz.sz x≤1048576):dJ bD Tryz.prog Db x:=by
 rintro cs F h ⟨v0,v1,v2,F0,F1,F2,rfl,rfl,r0,r1,r2⟩
 have hs:(x.near.length+szs x.near)+(x.far.length+szs x.far)+(x.rest.length+szs x.rest)≤1048576:=hs
 refine afQ _ ?_
 unfold P8
 (repeat' first|refine vs ?_|((with_reducible refine ay yE ?_);(refine aG (lS abk ah aL) ?_;rintro _ _ ⟨e_,_,_,_⟩;have n_:=e_.1;(try simp only[aD,aN] at n_)))|((with_reducible refine ay sH ?_);(refine aG (lS IE ah aL) ?_;rintro _ _ ⟨e_,_,_,_⟩;have n_:=e_.1;(try simp only[aD,aN] at n_)))|fail)
 exact⟨rfl,_,rfl,aA,_,_,rfl,⟨_,_,_,_,_,_,rfl,rfl,ah,ah,ah⟩,(dA bT (dA bT bT dL) dL).1⟩
theorem ae0:EqC bD Tryz.prog Dr:=by
 rintro x cs cs' F F' h ⟨v0,v1,v2,F0,F1,F2,rfl,rfl,r0,r1,r2⟩ ⟨u0,u1,u2,G0,G1,G2,rfl,rfl,q0,q1,q2⟩
 refine reader (aga _ _) (by simp only[old]) ?_
 unfold Qh
 (repeat' first|refine vs ?_|((with_reducible refine ay yG ?_);refine aK (aby _ _ _ _ _ _ ah ah) ?_)|((with_reducible refine ay sJ ?_);refine aK (II _ _ _ _ _ _ ah ah) ?_)|fail)
 exact pb rfl
theorem aeS:SzC bD Tryz.prog Dk:=by
 rintro x ok cs F b h ⟨v0,v1,v2,F0,F1,F2,rfl,rfl,r0,r1,r2⟩ h0 h1
 obtain⟨alX,an9,aog,an7⟩:=ok
 have hS:Sz.sz x=(x.near.length+szs x.near)+(x.far.length+szs x.far)+(x.rest.length+szs x.rest):=rfl
 refine reader (afZ _ _) (by simp only[old]) ?_
 unfold Qc
 (repeat' first|refine vs ?_|(refine br ?_ ?_<;>first|exact bo|intro _)|((with_reducible refine ay yF ?_);(refine ig (szl abm ah (by assumption) aL aL) (fun _=>?_) (fun _=>?_)))|((with_reducible refine ay sI ?_);(refine ig (szl IG ah (by assumption) aL aL) (fun _=>?_) (fun _=>?_)))|fail)
 all_goals(refine pi ?_;unfold szr;split<;>omega)
end Go.Proofs.YtekfdoknfcedpaaGreat
end
section
set_option linter.unusedSimpArgs false
set_option linter.unusedVariables false
set_option maxHeartbeats 1000000
namespace Go.Proofs.YtekfdoknfcedpaaGreat
open Go Go.Ab
section
def NH (x0:AV):Prog:=.op (.box x0) fun a=>.op (.alloc [.int .i64 0,.int .i64 0,.bool false]) fun b=>.op (.alloc [.int .i64 0,.int .i64 0,.bool false]) fun c=>Lg 0 a fun d=>Sg 0 c d fun _=>Lg 1 a fun d=>Sg 1 c d fun _=>Lg 2 a fun a=>Sg 2 c a fun _=>Ld 3 c fun a=>.op (.st 3 b a) fun _=>.fin [.cn 3 b]
theorem acj (x0:AV):CC Tryz.prog Ii [x0] (NH x0):=cc Tryz.func113
def NP (x0 x1:AV):Prog:=.op (.box x0) fun a=>.op (.box x1) fun b=>Lg 0 a fun c=>Lg 0 b fun d=>Bn .neq c d fun c=>.ite c (.fin [.val (.bool false)]) (Lg 1 a fun c=>Lg 1 b fun d=>Bn .neq c d fun c=>.ite c (.fin [.val (.bool false)]) (Lg 2 a fun a=>Lg 2 b fun b=>.op (.bin 2 .neq a b) fun a=>.ite a (.fin [.val (.bool false)]) (.fin [.val (.bool true)])))
theorem acI (x0 x1:AV):CC Tryz.prog Iq [x0,x1] (NP x0 x1):=cc Tryz.func137
def aaO (x0:AV):Prog:=Ln 0 x0 fun a=>.op (.gy 3 24 [.int .i64 0,.int .i64 0,.bool false] a a) fun a=>.loop [.int .i64 0] (fun b=>Ln 0 x0 fun c=>Bn .lss (g b 0) c fun c=>.ite c (Ix 3 x0 (g b 0) fun c=>Ld 3 c fun c=>Cl Ii [c] fun c=>Ix 3 a (g b 0) fun a=>.op (.st 3 a c) fun _=>Bn .add (g b 0) (.int .i64 1) fun a=>.leaf 0 [a]) (.leaf 2 [g b 0])) fun b c=>ak b 1 (.leaf 1 c) (ak b 2 (.fin [.val a]) .bad)
theorem aaW (x0:AV):CC Tryz.prog Br [x0] (aaO x0):=cc Tryz.func36 [0,3,4] (fun _=>[])
def aaU (x0 x1:AV):Prog:=Ln 0 x0 fun a=>Ln 0 x1 fun b=>Bn .neq a b fun a=>.ite a (.fin [.val (.bool false)]) (.loop [.int .i64 0] (fun a=>Ln 0 x0 fun b=>Bn .lss (g a 0) b fun b=>.ite b (Ix 3 x0 (g a 0) fun b=>Ld 3 b fun b=>Ix 3 x1 (g a 0) fun c=>Ld 3 c fun c=>Cl Iq [b,c] fun b=>.op (.una .not b) fun b=>.ite b (.fin [.val (.bool false)]) (Bn .add (g a 0) (.int .i64 1) fun a=>.leaf 0 [a])) (.leaf 2 [g a 0])) fun a b=>ak a 1 (.leaf 1 b) (ak a 2 (.fin [.val (.bool true)]) .bad))
theorem aa2 (x0 x1:AV):CC Tryz.prog Bw [x0,x1] (aaU x0 x1):=cc Tryz.func51 [0,1,5] (fun r=>if r=6 then[(0,[]),(1,[]),(2,[]),(3,[]),(4,[]),(5,[]),(6,[]),(7,[]),(8,[]),(9,[])] else[])
def aaP (x0 x1:AV):Prog:=Ln 0 x0 fun a=>Bn .sub x1 a fun a=>Bn .lss a (.int .i64 0) fun b=>.ite b (.fin [.val (.int .i64 (-1))]) (.fin [.val a])
theorem aaX (x0 x1:AV):CC Tryz.prog Bt [x0,x1] (aaP x0 x1):=cc Tryz.func23
end
theorem abj (x:bg) (hs:Sz.sz x≤1048576):dJ bg Tryz.prog Ii x:=by
 rintro cs F h ⟨rfl,rfl⟩
 have hs:0≤1048576:=hs
 refine acj _ ?_
 unfold NH
 (repeat' first|refine vs ?_|fail)
 exact⟨rfl,_,rfl,aA,_,_,rfl,⟨rfl,rfl⟩,Own.nil⟩
theorem abx:EqC bg Tryz.prog Iq:=by
 rintro x cs cs' F F' h ⟨rfl,rfl⟩ ⟨rfl,rfl⟩
 refine reader (acI _ _) (by simp only[old]) ?_
 unfold NP
 (repeat' first|refine vs ?_|fail)
 exact pb rfl
theorem aay (xs:List bg) (hs:xs.length+szs xs≤1048576):fI Tryz.prog Br xs:=oW rfl rfl (by decide) hs (fun x hx=>abj x hx) (fun g=>aaW _ g)
theorem aaC:EqS bg Tryz.prog Bw:=fun xs v v' F F' h r r'=>reader (aa2 _ _) (by simp only[old]) (oV rfl abx r r')
theorem aaz:SzL bg Tryz.prog Bt:=fun xs _ v F b h r h0 h1=>reader (aaX _ _) (by simp only[old]) (by have:=T9 (P:=Tryz.prog) r h0 h1;rw[KA (fun _=>rfl)];exact this)
end Go.Proofs.YtekfdoknfcedpaaGreat
end
section
set_option linter.unusedSimpArgs false
set_option linter.unusedVariables false
set_option maxHeartbeats 1000000
namespace Go.Proofs.YtekfdoknfcedpaaGreat
open Go Go.Ab
section
def OB (x0:AV):Prog:=.op (.box x0) fun a=>.op (.alloc [.int .i64 0,.int .i64 0,.int .i64 0,.int .i64 0]) fun b=>.op (.alloc [.int .i64 0,.int .i64 0,.int .i64 0,.int .i64 0]) fun c=>Lg 0 a fun d=>Sg 0 c d fun _=>Lg 1 a fun d=>Sg 1 c d fun _=>Lg 2 a fun d=>Sg 2 c d fun _=>Lg 3 a fun a=>Sg 3 c a fun _=>Ld 4 c fun a=>.op (.st 4 b a) fun _=>.fin [.cn 4 b]
theorem ad2 (x0:AV):CC Tryz.prog Ct [x0] (OB x0):=cc Tryz.func35
def OI (x0 x1:AV):Prog:=.op (.box x0) fun a=>.op (.box x1) fun b=>Lg 0 a fun c=>Lg 0 b fun d=>Bn .neq c d fun c=>.ite c (.fin [.val (.bool false)]) (Lg 1 a fun c=>Lg 1 b fun d=>Bn .neq c d fun c=>.ite c (.fin [.val (.bool false)]) (Lg 2 a fun c=>Lg 2 b fun d=>Bn .neq c d fun c=>.ite c (.fin [.val (.bool false)]) (Lg 3 a fun a=>Lg 3 b fun b=>Bn .neq a b fun a=>.ite a (.fin [.val (.bool false)]) (.fin [.val (.bool true)]))))
theorem aee (x0 x1:AV):CC Tryz.prog Cw [x0,x1] (OI x0 x1):=cc Tryz.func50
end
theorem adi (x:Bucket) (hs:Sz.sz x≤1048576):dJ Bucket Tryz.prog Ct x:=by
 rintro cs F h ⟨rfl,rfl⟩
 have hs:0≤1048576:=hs
 refine ad2 _ ?_
 unfold OB
 (repeat' first|refine vs ?_|fail)
 exact⟨rfl,_,rfl,aA,_,_,rfl,⟨rfl,rfl⟩,Own.nil⟩
theorem ads:EqC Bucket Tryz.prog Cw:=by
 rintro x cs cs' F F' h ⟨rfl,rfl⟩ ⟨rfl,rfl⟩
 refine reader (aee _ _) (by simp only[old]) ?_
 unfold OI
 (repeat' first|refine vs ?_|fail)
 exact pb rfl
end Go.Proofs.YtekfdoknfcedpaaGreat
end
section
set_option linter.unusedSimpArgs false
set_option linter.unusedVariables false
set_option maxHeartbeats 1000000
namespace Go.Proofs.YtekfdoknfcedpaaGreat
open Go Go.Ab
section
def Rf (x0:AV):Prog:=.op (.box x0) fun a=>.op (.alloc wR) fun b=>.op (.alloc wR) fun c=>Lg 0 a fun d=>Sg 0 c d fun _=>Lg 1 a fun d=>Sg 1 c d fun _=>Lg 2 a fun d=>Sg 2 c d fun _=>Lg 3 a fun d=>Sg 3 c d fun _=>Lg 4 a fun d=>Sg 4 c d fun _=>Lg 5 a fun d=>Sg 5 c d fun _=>Lg 6 a fun d=>Sg 6 c d fun _=>.op (.fad 7 a) fun a=>Ld 5 a fun a=>Cl tC [a] fun a=>.op (.fad 7 c) fun d=>.op (.st 5 d a) fun _=>Ld 12 c fun a=>.op (.st 12 b a) fun _=>.fin [.cn 12 b]
theorem ahz (x0:AV):CC Tryz.prog D5 [x0] (Rf x0):=cc Tryz.func33
def Rt (x0 x1:AV):Prog:=.op (.box x0) fun a=>.op (.box x1) fun b=>Lg 0 a fun c=>Lg 0 b fun d=>Bn .neq c d fun c=>.ite c (.fin [.val (.bool false)]) (Lg 1 a fun c=>Lg 1 b fun d=>Bn .neq c d fun c=>.ite c (.fin [.val (.bool false)]) (Lg 2 a fun c=>Lg 2 b fun d=>Bn .neq c d fun c=>.ite c (.fin [.val (.bool false)]) (Lg 3 a fun c=>Lg 3 b fun d=>Bn .neq c d fun c=>.ite c (.fin [.val (.bool false)]) (Lg 4 a fun c=>Lg 4 b fun d=>Bn .neq c d fun c=>.ite c (.fin [.val (.bool false)]) (Lg 5 a fun c=>Lg 5 b fun d=>Bn .neq c d fun c=>.ite c (.fin [.val (.bool false)]) (Lg 6 a fun c=>Lg 6 b fun d=>Bn .neq c d fun c=>.ite c (.fin [.val (.bool false)]) (.op (.fad 7 a) fun a=>Ld 5 a fun a=>.op (.fad 7 b) fun b=>Ld 5 b fun b=>Cl wm [a,b] fun a=>.op (.una .not a) fun a=>.ite a (.fin [.val (.bool false)]) (.fin [.val (.bool true)]))))))))
theorem ahN (x0 x1:AV):CC Tryz.prog D7 [x0,x1] (Rt x0 x1):=cc Tryz.func48
def Rm (x0 x1:AV):Prog:=.op (.box x0) fun a=>.op (.fad 7 a) fun a=>Ld 5 a fun a=>Cl wh [a,x1] fun a=>Bn .lss a (.int .i64 0) fun b=>.ite b (.fin [.val (.int .i64 (-1))]) (.fin [.val a])
theorem ahG (x0 x1:AV):CC Tryz.prog D6 [x0,x1] (Rm x0 x1):=cc Tryz.func21
end
theorem agM (x:gD) (hs:Sz.sz x≤1048576):dJ gD Tryz.prog D5 x:=by
 rintro cs F h ⟨v0,rfl,r0⟩
 have hs:Sz.sz x.rule≤1048576:=hs
 have al8:Sz.sz x.rule=x.rule.key.size+x.rule.text.size+(x.rule.l.length+szs x.rule.l):=Pol.qd _
 refine ahz _ ?_
 unfold Rf
 (repeat' first|refine vs ?_|((with_reducible refine ay tC ?_);(refine aG (RQ _ aL _ _ _ (Pol.dB.2 ⟨_,rfl,ah⟩)) ?_;rintro _ _ ⟨e_,_,_,rfl,r_,_⟩;obtain⟨_,rfl,_⟩:=Pol.dB.1 r_;have n_:=e_.1;(try simp only[aD,aN] at n_)))|fail)
 exact⟨rfl,_,rfl,aA,_,_,rfl,⟨_,rfl,ah⟩,aZ⟩
theorem agW:EqC gD Tryz.prog D7:=by
 rintro x cs cs' F F' h ⟨v0,rfl,r0⟩ ⟨u0,rfl,q0⟩
 refine reader (ahN _ _) (by simp only[old]) ?_
 unfold Rt
 (repeat' first|refine vs ?_|((with_reducible refine ay wm ?_);refine aK (RU _ _ _ _ _ _ (Pol.dB.2 ⟨_,rfl,ah⟩) (Pol.dB.2 ⟨_,rfl,ah⟩)) ?_)|fail)
 exact pb rfl
theorem agR:SzC gD Tryz.prog D6:=by
 rintro x ok cs F b h ⟨v0,rfl,r0⟩ h0 h1
 obtain⟨anV,an3,anX,wM,qN,an8,an1,an6⟩:=ok
 have hS:Sz.sz x=Sz.sz x.rule:=rfl
 have al8:Sz.sz x.rule=x.rule.key.size+x.rule.text.size+(x.rule.l.length+szs x.rule.l):=Pol.qd _
 refine reader (ahG _ _) (by simp only[old]) ?_
 unfold Rm
 (repeat' first|refine vs ?_|(refine br ?_ ?_<;>first|exact bo|intro _)|((with_reducible refine ay wh ?_);(refine ig (RS _ (by assumption) _ _ _ _ (Pol.dB.2 ⟨_,rfl,ah⟩) aL aL) (fun _=>?_) (fun _=>?_)))|fail)
 all_goals(refine pi ?_;unfold szr;split<;>omega)
end Go.Proofs.YtekfdoknfcedpaaGreat
end
