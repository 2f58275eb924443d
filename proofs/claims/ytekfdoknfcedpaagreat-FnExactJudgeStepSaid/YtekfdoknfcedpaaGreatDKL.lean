import Derived.Test.YtekfdoknfcedpaaGreatDNm
import Derived.Test.YtekfdoknfcedpaaGreatDK4
import Derived.Test.YtekfdoknfcedpaaGreatDKW1
section
set_option linter.unusedSimpArgs false
set_option linter.unusedVariables false
set_option maxHeartbeats 1000000
namespace Go.Proofs.YtekfdoknfcedpaaGreat
open Go Go.Ab
section
def QI (x0:AV):Prog:=.op (.box x0) fun a=>.op (.alloc [.str ⟨#[]⟩,.bool false,.int .i64 0,.str ⟨#[]⟩]) fun b=>.op (.alloc [.str ⟨#[]⟩,.bool false,.int .i64 0,.str ⟨#[]⟩]) fun c=>Lg 0 a fun d=>Sg 0 c d fun _=>Lg 1 a fun d=>Sg 1 c d fun _=>Lg 2 a fun d=>Sg 2 c d fun _=>Lg 3 a fun a=>Sg 3 c a fun _=>Ld 4 c fun a=>.op (.st 4 b a) fun _=>.fin [.cn 4 b]
theorem ahO (x0:AV):CC Tryz.prog Jp [x0] (QI x0):=cc Tryz.func163
def QX (x0 x1:AV):Prog:=.op (.box x0) fun a=>.op (.box x1) fun b=>Lg 0 a fun c=>Lg 0 b fun d=>.op (.bin 1 .neq c d) fun c=>.ite c (.fin [.val (.bool false)]) (Lg 1 a fun c=>Lg 1 b fun d=>.op (.bin 2 .neq c d) fun c=>.ite c (.fin [.val (.bool false)]) (Lg 2 a fun c=>Lg 2 b fun d=>Bn .neq c d fun c=>.ite c (.fin [.val (.bool false)]) (Lg 3 a fun a=>Lg 3 b fun b=>.op (.bin 1 .neq a b) fun a=>.ite a (.fin [.val (.bool false)]) (.fin [.val (.bool true)]))))
theorem ah2 (x0 x1:AV):CC Tryz.prog Jy [x0,x1] (QX x0 x1):=cc Tryz.func165
def QO (x0 x1:AV):Prog:=.op (.box x0) fun a=>Lg 0 a fun b=>Ln 1 b fun b=>Bn .sub x1 b fun b=>Bn .lss b (.int .i64 0) fun c=>.ite c (.fin [.val (.int .i64 (-1))]) (Lg 3 a fun a=>Ln 1 a fun a=>Bn .sub b a fun a=>Bn .lss a (.int .i64 0) fun b=>.ite b (.fin [.val (.int .i64 (-1))]) (.fin [.val a]))
theorem ahV (x0 x1:AV):CC Tryz.prog Jt [x0,x1] (QO x0 x1):=cc Tryz.func160
def afe (x0:AV):Prog:=Ln 0 x0 fun a=>.op (.eX 4 48 [.str ⟨#[]⟩,.bool false,.int .i64 0,.str ⟨#[]⟩] a a) fun a=>.loop [.int .i64 0] (fun b=>Ln 0 x0 fun c=>Bn .lss (g b 0) c fun c=>.ite c (Ix 4 x0 (g b 0) fun c=>Ld 4 c fun c=>Cl Jp [c] fun c=>Ix 4 a (g b 0) fun a=>.op (.st 4 a c) fun _=>Bn .add (g b 0) (.int .i64 1) fun a=>.leaf 0 [a]) (.leaf 2 [g b 0])) fun b c=>aA b 1 (.leaf 1 c) (aA b 2 (.fin [.val a]) .bad)
theorem afT (x0:AV):CC Tryz.prog Bw [x0] (afe x0):=cc Tryz.func79 [0,3,4] (fun _=>[])
def afo (x0 x1:AV):Prog:=Ln 0 x0 fun a=>Ln 0 x1 fun b=>Bn .neq a b fun a=>.ite a (.fin [.val (.bool false)]) (.loop [.int .i64 0] (fun a=>Ln 0 x0 fun b=>Bn .lss (g a 0) b fun b=>.ite b (Ix 4 x0 (g a 0) fun b=>Ld 4 b fun b=>Ix 4 x1 (g a 0) fun c=>Ld 4 c fun c=>Cl Jy [b,c] fun b=>.op (.una .not b) fun b=>.ite b (.fin [.val (.bool false)]) (Bn .add (g a 0) (.int .i64 1) fun a=>.leaf 0 [a])) (.leaf 2 [g a 0])) fun a b=>aA a 1 (.leaf 1 b) (aA a 2 (.fin [.val (.bool true)]) .bad))
theorem agd (x0 x1:AV):CC Tryz.prog BO [x0,x1] (afo x0 x1):=cc Tryz.func83 [0,1,5] (fun r=>if r=6 then[(0,[]),(1,[]),(2,[]),(3,[]),(4,[]),(5,[]),(6,[]),(7,[]),(8,[]),(9,[])] else[])
def afj (x0 x1:AV):Prog:=Ln 0 x0 fun a=>Bn .sub x1 a fun a=>Bn .lss a (.int .i64 0) fun b=>.ite b (.fin [.val (.int .i64 (-1))]) (.loop [a,.int .i64 0] (fun a=>Ln 0 x0 fun b=>Bn .lss (g a 1) b fun b=>.ite b (Ix 4 x0 (g a 1) fun b=>Ld 4 b fun b=>Cl Jt [b,g a 0] fun b=>Bn .lss b (.int .i64 0) fun c=>.ite c (.fin [.val (.int .i64 (-1))]) (Bn .add (g a 1) (.int .i64 1) fun a=>.leaf 0 [b,a])) (.leaf 2 [g a 0,g a 1])) fun a b=>aA a 1 (.leaf 1 b) (aA a 2 (.fin [.val (g b 0)]) .bad))
theorem af2 (x0 x1:AV):CC Tryz.prog BH [x0,x1] (afj x0 x1):=cc Tryz.func77 [0,1,5] (fun _=>[])
end
theorem agW (x:Attr) (hs:Sz.sz x≤1048576):dA Attr Tryz.prog Jp x:=by
 rintro cs F h ⟨rfl,rfl⟩
 have hs:x.key.size+x.text.size≤1048576:=hs
 refine ahO _ ?_
 unfold QI
 (repeat' first|refine vs ?_|fail)
 exact⟨rfl,_,rfl,aG,_,_,rfl,⟨rfl,rfl⟩,Own.nil⟩
theorem ag6:EqC Attr Tryz.prog Jy:=by
 rintro x cs cs' F F' h ⟨rfl,rfl⟩ ⟨rfl,rfl⟩
 refine reader (ah2 _ _) (by simp only[old]) ?_
 unfold QX
 (repeat' first|refine vs ?_|fail)
 exact pb rfl
theorem ag1:SzC Attr Tryz.prog Jt:=by
 rintro x ok cs F b h ⟨rfl,rfl⟩ h0 h1
 obtain⟨Vq,anm,Ux⟩:=ok
 have Vq:x.key.size≤9223372036854775807:=Vq
 have Ux:x.text.size≤9223372036854775807:=Ux
 have hS:Sz.sz x=x.key.size+x.text.size:=rfl
 refine reader (ahV _ _) (by simp only[old]) ?_
 unfold QO
 (repeat' first|refine vs ?_|(refine br ?_ ?_<;>first|exact bx|intro _)|fail)
 all_goals(refine pi ?_;unfold szr;split<;>omega)
theorem aeG (xs:List Attr) (hs:xs.length+szs xs≤1048576):dZ Tryz.prog Bw xs:=mY rfl rfl (by decide) hs (fun x hx=>agW x hx) (fun g=>afT _ g)
theorem aeW:EqS Attr Tryz.prog BO:=fun xs v v' F F' h r r'=>reader (agd _ _) (by simp only[old]) (mX rfl ag6 r r')
theorem aeN:SzL Attr Tryz.prog BH:=fun xs ok v F b h r h0 h1=>reader (af2 _ _) (by simp only[old]) (qN rfl ag1 ok r h0 h1)
end Go.Proofs.YtekfdoknfcedpaaGreat
end
section
set_option linter.unusedSimpArgs false
set_option linter.unusedVariables false
set_option maxHeartbeats 1000000
namespace Go.Proofs.YtekfdoknfcedpaaGreat
open Go Go.Ab
section
def QE (x0:AV):Prog:=.op (.box x0) fun a=>.op (.alloc iT) fun b=>.op (.alloc iT) fun c=>Lg 0 a fun d=>Sg 0 c d fun _=>Lg 1 a fun d=>Sg 1 c d fun _=>Lg 2 a fun d=>Sg 2 c d fun _=>Lg 3 a fun d=>Sg 3 c d fun _=>Lg 4 a fun d=>Sg 4 c d fun _=>Lg 5 a fun a=>Cl Bw [a] fun a=>Sg 5 c a fun _=>Ld 6 c fun a=>.op (.st 6 b a) fun _=>.fin [.cn 6 b]
theorem ahJ (x0:AV):CC Tryz.prog mM [x0] (QE x0):=cc Tryz.func17
def QT (x0 x1:AV):Prog:=.op (.box x0) fun a=>.op (.box x1) fun b=>Lg 0 a fun c=>Lg 0 b fun d=>Bn .neq c d fun c=>.ite c (.fin [.val (.bool false)]) (Lg 1 a fun c=>Lg 1 b fun d=>Bn .neq c d fun c=>.ite c (.fin [.val (.bool false)]) (Lg 2 a fun c=>Lg 2 b fun d=>Bn .neq c d fun c=>.ite c (.fin [.val (.bool false)]) (Lg 3 a fun c=>Lg 3 b fun d=>Bn .neq c d fun c=>.ite c (.fin [.val (.bool false)]) (Lg 4 a fun c=>Lg 4 b fun d=>.op (.bin 2 .neq c d) fun c=>.ite c (.fin [.val (.bool false)]) (Lg 5 a fun a=>Lg 5 b fun b=>Cl BO [a,b] fun a=>.op (.una .not a) fun a=>.ite a (.fin [.val (.bool false)]) (.fin [.val (.bool true)]))))))
theorem ahX (x0 x1:AV):CC Tryz.prog mP [x0,x1] (QT x0 x1):=cc Tryz.func19
def QK (x0 x1:AV):Prog:=.op (.box x0) fun a=>Lg 5 a fun a=>Cl BH [a,x1] fun a=>Bn .lss a (.int .i64 0) fun b=>.ite b (.fin [.val (.int .i64 (-1))]) (.fin [.val a])
theorem ahQ (x0 x1:AV):CC Tryz.prog mO [x0,x1] (QK x0 x1):=cc Tryz.func15
def afb (x0:AV):Prog:=Ln 0 x0 fun a=>.op (.eX 6 64 iT a a) fun a=>.loop [.int .i64 0] (fun b=>Ln 0 x0 fun c=>Bn .lss (g b 0) c fun c=>.ite c (Ix 6 x0 (g b 0) fun c=>Ld 6 c fun c=>Cl mM [c] fun c=>Ix 6 a (g b 0) fun a=>.op (.st 6 a c) fun _=>Bn .add (g b 0) (.int .i64 1) fun a=>.leaf 0 [a]) (.leaf 2 [g b 0])) fun b c=>aA b 1 (.leaf 1 c) (aA b 2 (.fin [.val a]) .bad)
theorem afQ (x0:AV):CC Tryz.prog Bu [x0] (afb x0):=cc Tryz.func314 [0,3,4] (fun _=>[])
def afl (x0 x1:AV):Prog:=Ln 0 x0 fun a=>Ln 0 x1 fun b=>Bn .neq a b fun a=>.ite a (.fin [.val (.bool false)]) (.loop [.int .i64 0] (fun a=>Ln 0 x0 fun b=>Bn .lss (g a 0) b fun b=>.ite b (Ix 6 x0 (g a 0) fun b=>Ld 6 b fun b=>Ix 6 x1 (g a 0) fun c=>Ld 6 c fun c=>Cl mP [b,c] fun b=>.op (.una .not b) fun b=>.ite b (.fin [.val (.bool false)]) (Bn .add (g a 0) (.int .i64 1) fun a=>.leaf 0 [a])) (.leaf 2 [g a 0])) fun a b=>aA a 1 (.leaf 1 b) (aA a 2 (.fin [.val (.bool true)]) .bad))
theorem aga (x0 x1:AV):CC Tryz.prog BL [x0,x1] (afl x0 x1):=cc Tryz.func323 [0,1,5] (fun r=>if r=6 then[(0,[]),(1,[]),(2,[]),(3,[]),(4,[]),(5,[]),(6,[]),(7,[]),(8,[]),(9,[])] else[])
def afg (x0 x1:AV):Prog:=Ln 0 x0 fun a=>Bn .sub x1 a fun a=>Bn .lss a (.int .i64 0) fun b=>.ite b (.fin [.val (.int .i64 (-1))]) (.loop [a,.int .i64 0] (fun a=>Ln 0 x0 fun b=>Bn .lss (g a 1) b fun b=>.ite b (Ix 6 x0 (g a 1) fun b=>Ld 6 b fun b=>Cl mO [b,g a 0] fun b=>Bn .lss b (.int .i64 0) fun c=>.ite c (.fin [.val (.int .i64 (-1))]) (Bn .add (g a 1) (.int .i64 1) fun a=>.leaf 0 [b,a])) (.leaf 2 [g a 0,g a 1])) fun a b=>aA a 1 (.leaf 1 b) (aA a 2 (.fin [.val (g b 0)]) .bad))
theorem afY (x0 x1:AV):CC Tryz.prog BF [x0,x1] (afg x0 x1):=cc Tryz.func307 [0,1,5] (fun _=>[])
end
theorem Cc (x:Span) (hs:Sz.sz x≤1048576):dA Span Tryz.prog mM x:=by
 rintro cs F h ⟨v0,rfl,r0⟩
 have hs:(x.attrs.length+szs x.attrs)≤1048576:=hs
 refine ahJ _ ?_
 unfold QE
 (repeat' first|refine vs ?_|((with_reducible refine aB Bw ?_);(refine aT (ku aeG ah aP) ?_;rintro _ _ ⟨e_,_,_,_⟩;have n_:=e_.1;(try simp only[aO,aV] at n_)))|fail)
 exact⟨rfl,_,rfl,aG,_,_,rfl,⟨_,rfl,ah⟩,bJ⟩
theorem Cg:EqC Span Tryz.prog mP:=by
 rintro x cs cs' F F' h ⟨v0,rfl,r0⟩ ⟨u0,rfl,q0⟩
 refine reader (ahX _ _) (by simp only[old]) ?_
 unfold QT
 (repeat' first|refine vs ?_|((with_reducible refine aB BO ?_);refine aQ (aeW _ _ _ _ _ _ ah ah) ?_)|fail)
 exact pb rfl
theorem Ce:SzC Span Tryz.prog mO:=by
 rintro x ok cs F b h ⟨v0,rfl,r0⟩ h0 h1
 obtain⟨DN,amH,an4,aol,an8⟩:=ok
 have hS:Sz.sz x=(x.attrs.length+szs x.attrs):=rfl
 refine reader (ahQ _ _) (by simp only[old]) ?_
 unfold QK
 (repeat' first|refine vs ?_|(refine br ?_ ?_<;>first|exact bo|intro _)|((with_reducible refine aB BH ?_);(refine fP (szl aeN ah (by assumption) aP aP) (fun _=>?_) (fun _=>?_)))|fail)
 all_goals(refine pi ?_;unfold szr;split<;>omega)
theorem aeE (xs:List Span) (hs:xs.length+szs xs≤1048576):dZ Tryz.prog Bu xs:=mY rfl rfl (by decide) hs (fun x hx=>Cc x hx) (fun g=>afQ _ g)
theorem aeU:EqS Span Tryz.prog BL:=fun xs v v' F F' h r r'=>reader (aga _ _) (by simp only[old]) (mX rfl Cg r r')
theorem aeL:SzL Span Tryz.prog BF:=fun xs ok v F b h r h0 h1=>reader (afY _ _) (by simp only[old]) (qN rfl Ce ok r h0 h1)
end Go.Proofs.YtekfdoknfcedpaaGreat
end
section
set_option linter.unusedSimpArgs false
set_option linter.unusedVariables false
set_option maxHeartbeats 1000000
namespace Go.Proofs.YtekfdoknfcedpaaGreat
open Go Go.Ab
section
def O8 (x0:AV):Prog:=.op (.box x0) fun a=>.op (.alloc [.int .i64 0,.int .i64 0,.int .i64 0,.aF]) fun b=>.op (.alloc [.int .i64 0,.int .i64 0,.int .i64 0,.aF]) fun c=>Lg 0 a fun d=>Sg 0 c d fun _=>Lg 1 a fun d=>Sg 1 c d fun _=>Lg 2 a fun d=>Sg 2 c d fun _=>Lg 3 a fun a=>Cl Bu [a] fun a=>Sg 3 c a fun _=>Ld 4 c fun a=>.op (.st 4 b a) fun _=>.fin [.cn 4 b]
theorem afN (x0:AV):CC Tryz.prog IV [x0] (O8 x0):=cc Tryz.func265
def Po (x0 x1:AV):Prog:=.op (.box x0) fun a=>.op (.box x1) fun b=>Lg 0 a fun c=>Lg 0 b fun d=>Bn .neq c d fun c=>.ite c (.fin [.val (.bool false)]) (Lg 1 a fun c=>Lg 1 b fun d=>Bn .neq c d fun c=>.ite c (.fin [.val (.bool false)]) (Lg 2 a fun c=>Lg 2 b fun d=>Bn .neq c d fun c=>.ite c (.fin [.val (.bool false)]) (Lg 3 a fun a=>Lg 3 b fun b=>Cl BL [a,b] fun a=>.op (.una .not a) fun a=>.ite a (.fin [.val (.bool false)]) (.fin [.val (.bool true)]))))
theorem af7 (x0 x1:AV):CC Tryz.prog IZ [x0,x1] (Po x0 x1):=cc Tryz.func295
def Pg (x0 x1:AV):Prog:=.op (.box x0) fun a=>Lg 3 a fun a=>Cl BF [a,x1] fun a=>Bn .lss a (.int .i64 0) fun b=>.ite b (.fin [.val (.int .i64 (-1))]) (.fin [.val a])
theorem afW (x0 x1:AV):CC Tryz.prog IX [x0,x1] (Pg x0 x1):=cc Tryz.func247
def adu (x0:AV):Prog:=Ln 0 x0 fun a=>.op (.eX 4 48 [.int .i64 0,.int .i64 0,.int .i64 0,.aF] a a) fun a=>.loop [.int .i64 0] (fun b=>Ln 0 x0 fun c=>Bn .lss (g b 0) c fun c=>.ite c (Ix 4 x0 (g b 0) fun c=>Ld 4 c fun c=>Cl IV [c] fun c=>Ix 4 a (g b 0) fun a=>.op (.st 4 a c) fun _=>Bn .add (g b 0) (.int .i64 1) fun a=>.leaf 0 [a]) (.leaf 2 [g b 0])) fun b c=>aA b 1 (.leaf 1 c) (aA b 2 (.fin [.val a]) .bad)
theorem adO (x0:AV):CC Tryz.prog Ay [x0] (adu x0):=cc Tryz.func191 [0,3,4] (fun _=>[])
def adB (x0 x1:AV):Prog:=Ln 0 x0 fun a=>Ln 0 x1 fun b=>Bn .neq a b fun a=>.ite a (.fin [.val (.bool false)]) (.loop [.int .i64 0] (fun a=>Ln 0 x0 fun b=>Bn .lss (g a 0) b fun b=>.ite b (Ix 4 x0 (g a 0) fun b=>Ld 4 b fun b=>Ix 4 x1 (g a 0) fun c=>Ld 4 c fun c=>Cl IZ [b,c] fun b=>.op (.una .not b) fun b=>.ite b (.fin [.val (.bool false)]) (Bn .add (g a 0) (.int .i64 1) fun a=>.leaf 0 [a])) (.leaf 2 [g a 0])) fun a b=>aA a 1 (.leaf 1 b) (aA a 2 (.fin [.val (.bool true)]) .bad))
theorem ad1 (x0 x1:AV):CC Tryz.prog AB [x0,x1] (adB x0 x1):=cc Tryz.func225 [0,1,5] (fun r=>if r=6 then[(0,[]),(1,[]),(2,[]),(3,[]),(4,[]),(5,[]),(6,[]),(7,[]),(8,[]),(9,[])] else[])
def adx (x0 x1:AV):Prog:=Ln 0 x0 fun a=>Bn .sub x1 a fun a=>Bn .lss a (.int .i64 0) fun b=>.ite b (.fin [.val (.int .i64 (-1))]) (.loop [a,.int .i64 0] (fun a=>Ln 0 x0 fun b=>Bn .lss (g a 1) b fun b=>.ite b (Ix 4 x0 (g a 1) fun b=>Ld 4 b fun b=>Cl IX [b,g a 0] fun b=>Bn .lss b (.int .i64 0) fun c=>.ite c (.fin [.val (.int .i64 (-1))]) (Bn .add (g a 1) (.int .i64 1) fun a=>.leaf 0 [b,a])) (.leaf 2 [g a 0,g a 1])) fun a b=>aA a 1 (.leaf 1 b) (aA a 2 (.fin [.val (g b 0)]) .bad))
theorem adS (x0 x1:AV):CC Tryz.prog AA [x0,x1] (adx x0 x1):=cc Tryz.func168 [0,1,5] (fun _=>[])
end
theorem aeB (x:Trail) (hs:Sz.sz x≤1048576):dA Trail Tryz.prog IV x:=by
 rintro cs F h ⟨v0,rfl,r0⟩
 have hs:(x.spans.length+szs x.spans)≤1048576:=hs
 refine afN _ ?_
 unfold O8
 (repeat' first|refine vs ?_|((with_reducible refine aB Bu ?_);(refine aT (ku aeE ah aP) ?_;rintro _ _ ⟨e_,_,_,_⟩;have n_:=e_.1;(try simp only[aO,aV] at n_)))|fail)
 exact⟨rfl,_,rfl,aG,_,_,rfl,⟨_,rfl,ah⟩,bJ⟩
theorem aeR:EqC Trail Tryz.prog IZ:=by
 rintro x cs cs' F F' h ⟨v0,rfl,r0⟩ ⟨u0,rfl,q0⟩
 refine reader (af7 _ _) (by simp only[old]) ?_
 unfold Po
 (repeat' first|refine vs ?_|((with_reducible refine aB BL ?_);refine aQ (aeU _ _ _ _ _ _ ah ah) ?_)|fail)
 exact pb rfl
theorem aeJ:SzC Trail Tryz.prog IX:=by
 rintro x ok cs F b h ⟨v0,rfl,r0⟩ h0 h1
 obtain⟨amH,xO,an6,an5⟩:=ok
 have hS:Sz.sz x=(x.spans.length+szs x.spans):=rfl
 refine reader (afW _ _) (by simp only[old]) ?_
 unfold Pg
 (repeat' first|refine vs ?_|(refine br ?_ ?_<;>first|exact bo|intro _)|((with_reducible refine aB BF ?_);(refine fP (szl aeL ah (by assumption) aP aP) (fun _=>?_) (fun _=>?_)))|fail)
 all_goals(refine pi ?_;unfold szr;split<;>omega)
theorem ac7 (xs:List Trail) (hs:xs.length+szs xs≤1048576):dZ Tryz.prog Ay xs:=mY rfl rfl (by decide) hs (fun x hx=>aeB x hx) (fun g=>adO _ g)
theorem adi:EqS Trail Tryz.prog AB:=fun xs v v' F F' h r r'=>reader (ad1 _ _) (by simp only[old]) (mX rfl aeR r r')
theorem ada:SzL Trail Tryz.prog AA:=fun xs ok v F b h r h0 h1=>reader (adS _ _) (by simp only[old]) (qN rfl aeJ ok r h0 h1)
end Go.Proofs.YtekfdoknfcedpaaGreat
end
section
set_option linter.unusedSimpArgs false
set_option linter.unusedVariables false
set_option maxHeartbeats 1000000
namespace Go.Proofs.YtekfdoknfcedpaaGreat
open Go Go.Ab
section
def NH (x0:AV):Prog:=.op (.box x0) fun a=>.op (.alloc [.int .i64 0,.aF]) fun b=>.op (.alloc [.int .i64 0,.aF]) fun c=>Lg 0 a fun d=>Sg 0 c d fun _=>Lg 1 a fun a=>Cl Ay [a] fun a=>Sg 1 c a fun _=>Ld 2 c fun a=>.op (.st 2 b a) fun _=>.fin [.cn 2 b]
theorem adQ (x0:AV):CC Tryz.prog Iw [x0] (NH x0):=cc Tryz.func112
def NQ (x0 x1:AV):Prog:=.op (.box x0) fun a=>.op (.box x1) fun b=>Lg 0 a fun c=>Lg 0 b fun d=>Bn .neq c d fun c=>.ite c (.fin [.val (.bool false)]) (Lg 1 a fun a=>Lg 1 b fun b=>Cl AB [a,b] fun a=>.op (.una .not a) fun a=>.ite a (.fin [.val (.bool false)]) (.fin [.val (.bool true)]))
theorem ad3 (x0 x1:AV):CC Tryz.prog IC [x0,x1] (NQ x0 x1):=cc Tryz.func136
def NJ (x0 x1:AV):Prog:=.op (.box x0) fun a=>Lg 1 a fun a=>Cl AA [a,x1] fun a=>Bn .lss a (.int .i64 0) fun b=>.ite b (.fin [.val (.int .i64 (-1))]) (.fin [.val a])
theorem adU (x0 x1:AV):CC Tryz.prog Iy [x0,x1] (NJ x0 x1):=cc Tryz.func86
def abN (x0:AV):Prog:=Ln 0 x0 fun a=>.op (.eX 2 32 [.int .i64 0,.aF] a a) fun a=>.loop [.int .i64 0] (fun b=>Ln 0 x0 fun c=>Bn .lss (g b 0) c fun c=>.ite c (Ix 2 x0 (g b 0) fun c=>Ld 2 c fun c=>Cl Iw [c] fun c=>Ix 2 a (g b 0) fun a=>.op (.st 2 a c) fun _=>Bn .add (g b 0) (.int .i64 1) fun a=>.leaf 0 [a]) (.leaf 2 [g b 0])) fun b c=>aA b 1 (.leaf 1 c) (aA b 2 (.fin [.val a]) .bad)
theorem ach (x0:AV):CC Tryz.prog zV [x0] (abN x0):=cc Tryz.func34 [0,3,4] (fun _=>[])
def ab1 (x0 x1:AV):Prog:=Ln 0 x0 fun a=>Ln 0 x1 fun b=>Bn .neq a b fun a=>.ite a (.fin [.val (.bool false)]) (.loop [.int .i64 0] (fun a=>Ln 0 x0 fun b=>Bn .lss (g a 0) b fun b=>.ite b (Ix 2 x0 (g a 0) fun b=>Ld 2 b fun b=>Ix 2 x1 (g a 0) fun c=>Ld 2 c fun c=>Cl IC [b,c] fun b=>.op (.una .not b) fun b=>.ite b (.fin [.val (.bool false)]) (Bn .add (g a 0) (.int .i64 1) fun a=>.leaf 0 [a])) (.leaf 2 [g a 0])) fun a b=>aA a 1 (.leaf 1 b) (aA a 2 (.fin [.val (.bool true)]) .bad))
theorem acG (x0 x1:AV):CC Tryz.prog Aa [x0,x1] (ab1 x0 x1):=cc Tryz.func49 [0,1,5] (fun r=>if r=6 then[(0,[]),(1,[]),(2,[]),(3,[]),(4,[]),(5,[]),(6,[]),(7,[]),(8,[]),(9,[])] else[])
def abP (x0 x1:AV):Prog:=Ln 0 x0 fun a=>Bn .sub x1 a fun a=>Bn .lss a (.int .i64 0) fun b=>.ite b (.fin [.val (.int .i64 (-1))]) (.loop [a,.int .i64 0] (fun a=>Ln 0 x0 fun b=>Bn .lss (g a 1) b fun b=>.ite b (Ix 2 x0 (g a 1) fun b=>Ld 2 b fun b=>Cl Iy [b,g a 0] fun b=>Bn .lss b (.int .i64 0) fun c=>.ite c (.fin [.val (.int .i64 (-1))]) (Bn .add (g a 1) (.int .i64 1) fun a=>.leaf 0 [b,a])) (.leaf 2 [g a 0,g a 1])) fun a b=>aA a 1 (.leaf 1 b) (aA a 2 (.fin [.val (g b 0)]) .bad))
theorem acj (x0 x1:AV):CC Tryz.prog zW [x0,x1] (abP x0 x1):=cc Tryz.func22 [0,1,5] (fun _=>[])
end
theorem ac8 (x:aU) (hs:Sz.sz x≤1048576):dA aU Tryz.prog Iw x:=by
 rintro cs F h ⟨v0,rfl,r0⟩
 have hs:(x.l.length+szs x.l)≤1048576:=hs
 refine adQ _ ?_
 unfold NH
 (repeat' first|refine vs ?_|((with_reducible refine aB Ay ?_);(refine aT (ku ac7 ah aP) ?_;rintro _ _ ⟨e_,_,_,_⟩;have n_:=e_.1;(try simp only[aO,aV] at n_)))|fail)
 exact⟨rfl,_,rfl,aG,_,_,rfl,⟨_,rfl,ah⟩,bJ⟩
theorem adj:EqC aU Tryz.prog IC:=by
 rintro x cs cs' F F' h ⟨v0,rfl,r0⟩ ⟨u0,rfl,q0⟩
 refine reader (ad3 _ _) (by simp only[old]) ?_
 unfold NQ
 (repeat' first|refine vs ?_|((with_reducible refine aB AB ?_);refine aQ (adi _ _ _ _ _ _ ah ah) ?_)|fail)
 exact pb rfl
theorem adb:SzC aU Tryz.prog Iy:=by
 rintro x ok cs F b h ⟨v0,rfl,r0⟩ h0 h1
 obtain⟨aog,aoB⟩:=ok
 have hS:Sz.sz x=(x.l.length+szs x.l):=rfl
 refine reader (adU _ _) (by simp only[old]) ?_
 unfold NJ
 (repeat' first|refine vs ?_|(refine br ?_ ?_<;>first|exact bo|intro _)|((with_reducible refine aB AA ?_);(refine fP (ada _ (by assumption) _ _ _ _ ah aP aP) (fun _=>?_) (fun _=>?_)))|fail)
 all_goals(refine pi ?_;unfold szr;split<;>omega)
theorem abg (xs:List aU) (hs:xs.length+szs xs≤1048576):dZ Tryz.prog zV xs:=mY rfl rfl (by decide) hs (fun x hx=>ac8 x hx) (fun g=>ach _ g)
theorem abv:EqS aU Tryz.prog Aa:=fun xs v v' F F' h r r'=>reader (acG _ _) (by simp only[old]) (mX rfl adj r r')
theorem abj:SzL aU Tryz.prog zW:=fun xs ok v F b h r h0 h1=>reader (acj _ _) (by simp only[old]) (qN rfl adb ok r h0 h1)
end Go.Proofs.YtekfdoknfcedpaaGreat
end
section
set_option linter.unusedSimpArgs false
set_option linter.unusedVariables false
set_option maxHeartbeats 1000000
namespace Go.Proofs.YtekfdoknfcedpaaGreat
open Go Go.Ab
section
def QF (x0:AV):Prog:=.op (.box x0) fun a=>.op (.alloc gV) fun b=>.op (.alloc gV) fun c=>Lg 0 a fun d=>Sg 0 c d fun _=>.op (.fad 1 a) fun a=>Ld 6 a fun a=>Cl mM [a] fun a=>.op (.fad 1 c) fun d=>.op (.st 6 d a) fun _=>Ld 7 c fun a=>.op (.st 7 b a) fun _=>.fin [.cn 7 b]
theorem ahL (x0:AV):CC Tryz.prog Jm [x0] (QF x0):=cc Tryz.func116
def QU (x0 x1:AV):Prog:=.op (.box x0) fun a=>.op (.box x1) fun b=>Lg 0 a fun c=>Lg 0 b fun d=>Bn .neq c d fun c=>.ite c (.fin [.val (.bool false)]) (.op (.fad 1 a) fun a=>Ld 6 a fun a=>.op (.fad 1 b) fun b=>Ld 6 b fun b=>Cl mP [a,b] fun a=>.op (.una .not a) fun a=>.ite a (.fin [.val (.bool false)]) (.fin [.val (.bool true)]))
theorem ahZ (x0 x1:AV):CC Tryz.prog Jv [x0,x1] (QU x0 x1):=cc Tryz.func140
def QL (x0 x1:AV):Prog:=.op (.box x0) fun a=>.op (.fad 1 a) fun a=>Ld 6 a fun a=>Cl mO [a,x1] fun a=>Bn .lss a (.int .i64 0) fun b=>.ite b (.fin [.val (.int .i64 (-1))]) (.fin [.val a])
theorem ahS (x0 x1:AV):CC Tryz.prog Jr [x0,x1] (QL x0 x1):=cc Tryz.func88
def afc (x0:AV):Prog:=Ln 0 x0 fun a=>.op (.eX 7 72 gV a a) fun a=>.loop [.int .i64 0] (fun b=>Ln 0 x0 fun c=>Bn .lss (g b 0) c fun c=>.ite c (Ix 7 x0 (g b 0) fun c=>Ld 7 c fun c=>Cl Jm [c] fun c=>Ix 7 a (g b 0) fun a=>.op (.st 7 a c) fun _=>Bn .add (g b 0) (.int .i64 1) fun a=>.leaf 0 [a]) (.leaf 2 [g b 0])) fun b c=>aA b 1 (.leaf 1 c) (aA b 2 (.fin [.val a]) .bad)
theorem afR (x0:AV):CC Tryz.prog qB [x0] (afc x0):=cc Tryz.func39 [0,3,4] (fun _=>[])
def afm (x0 x1:AV):Prog:=Ln 0 x0 fun a=>Ln 0 x1 fun b=>Bn .neq a b fun a=>.ite a (.fin [.val (.bool false)]) (.loop [.int .i64 0] (fun a=>Ln 0 x0 fun b=>Bn .lss (g a 0) b fun b=>.ite b (Ix 7 x0 (g a 0) fun b=>Ld 7 b fun b=>Ix 7 x1 (g a 0) fun c=>Ld 7 c fun c=>Cl Jv [b,c] fun b=>.op (.una .not b) fun b=>.ite b (.fin [.val (.bool false)]) (Bn .add (g a 0) (.int .i64 1) fun a=>.leaf 0 [a])) (.leaf 2 [g a 0])) fun a b=>aA a 1 (.leaf 1 b) (aA a 2 (.fin [.val (.bool true)]) .bad))
theorem agb (x0 x1:AV):CC Tryz.prog qD [x0,x1] (afm x0 x1):=cc Tryz.func54 [0,1,5] (fun r=>if r=6 then[(0,[]),(1,[]),(2,[]),(3,[]),(4,[]),(5,[]),(6,[]),(7,[]),(8,[]),(9,[])] else[])
def afh (x0 x1:AV):Prog:=Ln 0 x0 fun a=>Bn .sub x1 a fun a=>Bn .lss a (.int .i64 0) fun b=>.ite b (.fin [.val (.int .i64 (-1))]) (.loop [a,.int .i64 0] (fun a=>Ln 0 x0 fun b=>Bn .lss (g a 1) b fun b=>.ite b (Ix 7 x0 (g a 1) fun b=>Ld 7 b fun b=>Cl Jr [b,g a 0] fun b=>Bn .lss b (.int .i64 0) fun c=>.ite c (.fin [.val (.int .i64 (-1))]) (Bn .add (g a 1) (.int .i64 1) fun a=>.leaf 0 [b,a])) (.leaf 2 [g a 0,g a 1])) fun a b=>aA a 1 (.leaf 1 b) (aA a 2 (.fin [.val (g b 0)]) .bad))
theorem afZ (x0 x1:AV):CC Tryz.prog qC [x0,x1] (afh x0 x1):=cc Tryz.func26 [0,1,5] (fun _=>[])
end
theorem agT (x:Itm) (hs:Sz.sz x≤1048576):dA Itm Tryz.prog Jm x:=by
 rintro cs F h ⟨v0,rfl,r0⟩
 have hs:Sz.sz x.s≤1048576:=hs
 have e_s:Sz.sz x.s=(x.s.attrs.length+szs x.s.attrs):=rfl
 refine ahL _ ?_
 unfold QF
 (repeat' first|refine vs ?_|((with_reducible refine aB mM ?_);(refine aT (Cc _ aP _ _ _ ⟨_,rfl,ah⟩) ?_;rintro _ _ ⟨e_,_,_,rfl,⟨_,rfl,_⟩,_⟩;have n_:=e_.1;(try simp only[aO,aV] at n_)))|fail)
 exact⟨rfl,_,rfl,aG,_,_,rfl,⟨_,rfl,ah⟩,bJ⟩
theorem ag3:EqC Itm Tryz.prog Jv:=by
 rintro x cs cs' F F' h ⟨v0,rfl,r0⟩ ⟨u0,rfl,q0⟩
 refine reader (ahZ _ _) (by simp only[old]) ?_
 unfold QU
 (repeat' first|refine vs ?_|((with_reducible refine aB mP ?_);refine aQ (Cg _ _ _ _ _ _ ⟨_,rfl,ah⟩ ⟨_,rfl,ah⟩) ?_)|fail)
 exact pb rfl
theorem agY:SzC Itm Tryz.prog Jr:=by
 rintro x ok cs F b h ⟨v0,rfl,r0⟩ h0 h1
 obtain⟨xO,vX⟩:=ok
 have hS:Sz.sz x=Sz.sz x.s:=rfl
 have e_s:Sz.sz x.s=(x.s.attrs.length+szs x.s.attrs):=rfl
 refine reader (ahS _ _) (by simp only[old]) ?_
 unfold QL
 (repeat' first|refine vs ?_|(refine br ?_ ?_<;>first|exact bo|intro _)|((with_reducible refine aB mO ?_);(refine fP (Ce _ (by assumption) _ _ _ _ ⟨_,rfl,ah⟩ aP aP) (fun _=>?_) (fun _=>?_)))|fail)
 all_goals(refine pi ?_;unfold szr;split<;>omega)
theorem Oo (xs:List Itm) (hs:xs.length+szs xs≤1048576):dZ Tryz.prog qB xs:=mY rfl rfl (by decide) hs (fun x hx=>agT x hx) (fun g=>afR _ g)
theorem Ot:EqS Itm Tryz.prog qD:=fun xs v v' F F' h r r'=>reader (agb _ _) (by simp only[old]) (mX rfl ag3 r r')
theorem Oq:SzL Itm Tryz.prog qC:=fun xs ok v F b h r h0 h1=>reader (afZ _ _) (by simp only[old]) (qN rfl agY ok r h0 h1)
end Go.Proofs.YtekfdoknfcedpaaGreat
end
section
set_option linter.unusedSimpArgs false
set_option linter.unusedVariables false
set_option maxHeartbeats 1000000
namespace Go.Proofs.YtekfdoknfcedpaaGreat
open Go Go.Ab
section
def QD (x0:AV):Prog:=.op (.box x0) fun a=>.op (.alloc gu) fun b=>.op (.alloc gu) fun c=>Lg 0 a fun d=>Sg 0 c d fun _=>Lg 1 a fun d=>Sg 1 c d fun _=>.op (.fad 2 a) fun d=>Ld 6 d fun d=>Cl mM [d] fun d=>.op (.fad 2 c) fun e=>.op (.st 6 e d) fun _=>Lg 8 a fun d=>Sg 8 c d fun _=>Lg 9 a fun d=>Sg 9 c d fun _=>Lg 10 a fun d=>Cl qB [d] fun d=>Sg 10 c d fun _=>Lg 11 a fun a=>Sg 11 c a fun _=>Ld 12 c fun a=>.op (.st 12 b a) fun _=>.fin [.cn 12 b]
theorem ahI (x0:AV):CC Tryz.prog Jl [x0] (QD x0):=cc Tryz.func117
def QS (x0 x1:AV):Prog:=.op (.box x0) fun a=>.op (.box x1) fun b=>Lg 0 a fun c=>Lg 0 b fun d=>Bn .neq c d fun c=>.ite c (.fin [.val (.bool false)]) (Lg 1 a fun c=>Lg 1 b fun d=>Bn .neq c d fun c=>.ite c (.fin [.val (.bool false)]) (.op (.fad 2 a) fun c=>Ld 6 c fun c=>.op (.fad 2 b) fun d=>Ld 6 d fun d=>Cl mP [c,d] fun c=>.op (.una .not c) fun c=>.ite c (.fin [.val (.bool false)]) (Lg 8 a fun c=>Lg 8 b fun d=>Bn .neq c d fun c=>.ite c (.fin [.val (.bool false)]) (Lg 9 a fun c=>Lg 9 b fun d=>Bn .neq c d fun c=>.ite c (.fin [.val (.bool false)]) (Lg 10 a fun c=>Lg 10 b fun d=>Cl qD [c,d] fun c=>.op (.una .not c) fun c=>.ite c (.fin [.val (.bool false)]) (Lg 11 a fun a=>Lg 11 b fun b=>Bn .neq a b fun a=>.ite a (.fin [.val (.bool false)]) (.fin [.val (.bool true)])))))))
theorem ahW (x0 x1:AV):CC Tryz.prog Ju [x0,x1] (QS x0 x1):=cc Tryz.func141
def QJ (x0 x1:AV):Prog:=.op (.box x0) fun a=>.op (.fad 2 a) fun b=>Ld 6 b fun b=>Cl mO [b,x1] fun b=>Bn .lss b (.int .i64 0) fun c=>.ite c (.fin [.val (.int .i64 (-1))]) (Lg 10 a fun a=>Cl qC [a,b] fun a=>Bn .lss a (.int .i64 0) fun b=>.ite b (.fin [.val (.int .i64 (-1))]) (.fin [.val a]))
theorem ahP (x0 x1:AV):CC Tryz.prog Jq [x0,x1] (QJ x0 x1):=cc Tryz.func89
end
theorem agS (x:Task) (hs:Sz.sz x≤1048576):dA Task Tryz.prog Jl x:=by
 rintro cs F h ⟨v0,v1,F0,F1,rfl,rfl,r0,r1⟩
 have hs:Sz.sz x.s+(x.hand.length+szs x.hand)≤1048576:=hs
 have e_s:Sz.sz x.s=(x.s.attrs.length+szs x.s.attrs):=rfl
 refine ahI _ ?_
 unfold QD
 (repeat' first|refine vs ?_|((with_reducible refine aB mM ?_);(refine aT (Cc _ aP _ _ _ ⟨_,rfl,ah⟩) ?_;rintro _ _ ⟨e_,_,_,rfl,⟨_,rfl,_⟩,_⟩;have n_:=e_.1;(try simp only[aO,aV] at n_)))|((with_reducible refine aB qB ?_);(refine aT (ku Oo ah aP) ?_;rintro _ _ ⟨e_,_,_,_⟩;have n_:=e_.1;(try simp only[aO,aV] at n_)))|fail)
 exact⟨rfl,_,rfl,aG,_,_,rfl,⟨_,_,_,_,rfl,rfl,ah,ah⟩,(dh bU bU iw).1⟩
theorem ag2:EqC Task Tryz.prog Ju:=by
 rintro x cs cs' F F' h ⟨v0,v1,F0,F1,rfl,rfl,r0,r1⟩ ⟨u0,u1,G0,G1,rfl,rfl,q0,q1⟩
 refine reader (ahW _ _) (by simp only[old]) ?_
 unfold QS
 (repeat' first|refine vs ?_|((with_reducible refine aB mP ?_);refine aQ (Cg _ _ _ _ _ _ ⟨_,rfl,ah⟩ ⟨_,rfl,ah⟩) ?_)|((with_reducible refine aB qD ?_);refine aQ (Ot _ _ _ _ _ _ ah ah) ?_)|fail)
 exact pb rfl
theorem agX:SzC Task Tryz.prog Jq:=by
 rintro x ok cs F b h ⟨v0,v1,F0,F1,rfl,rfl,r0,r1⟩ h0 h1
 obtain⟨KQ,VZ,vX,DN,xO,Eh,Xe⟩:=ok
 have hS:Sz.sz x=Sz.sz x.s+(x.hand.length+szs x.hand):=rfl
 have e_s:Sz.sz x.s=(x.s.attrs.length+szs x.s.attrs):=rfl
 refine reader (ahP _ _) (by simp only[old]) ?_
 unfold QJ
 (repeat' first|refine vs ?_|(refine br ?_ ?_<;>first|exact bo|intro _)|((with_reducible refine aB mO ?_);(refine fP (Ce _ (by assumption) _ _ _ _ ⟨_,rfl,ah⟩ aP aP) (fun _=>?_) (fun _=>?_)))|((with_reducible refine aB qC ?_);(refine fP (szl Oq ah (by assumption) aP aP) (fun _=>?_) (fun _=>?_)))|fail)
 all_goals(refine pi ?_;unfold szr;split<;>omega)
end Go.Proofs.YtekfdoknfcedpaaGreat
end
section
set_option linter.unusedSimpArgs false
set_option linter.unusedVariables false
set_option maxHeartbeats 1000000
namespace Go.Proofs.YtekfdoknfcedpaaGreat
open Go Go.Ab
section
def afa (x0:AV):Prog:=Ln 0 x0 fun a=>.op (.eX 12 128 gu a a) fun a=>.loop [.int .i64 0] (fun b=>Ln 0 x0 fun c=>Bn .lss (g b 0) c fun c=>.ite c (Ix 12 x0 (g b 0) fun c=>Ld 12 c fun c=>Cl Jl [c] fun c=>Ix 12 a (g b 0) fun a=>.op (.st 12 a c) fun _=>Bn .add (g b 0) (.int .i64 1) fun a=>.leaf 0 [a]) (.leaf 2 [g b 0])) fun b c=>aA b 1 (.leaf 1 c) (aA b 2 (.fin [.val a]) .bad)
theorem afP (x0:AV):CC Tryz.prog Bt [x0] (afa x0):=cc Tryz.func40 [0,3,4] (fun _=>[])
def afk (x0 x1:AV):Prog:=Ln 0 x0 fun a=>Ln 0 x1 fun b=>Bn .neq a b fun a=>.ite a (.fin [.val (.bool false)]) (.loop [.int .i64 0] (fun a=>Ln 0 x0 fun b=>Bn .lss (g a 0) b fun b=>.ite b (Ix 12 x0 (g a 0) fun b=>Ld 12 b fun b=>Ix 12 x1 (g a 0) fun c=>Ld 12 c fun c=>Cl Ju [b,c] fun b=>.op (.una .not b) fun b=>.ite b (.fin [.val (.bool false)]) (Bn .add (g a 0) (.int .i64 1) fun a=>.leaf 0 [a])) (.leaf 2 [g a 0])) fun a b=>aA a 1 (.leaf 1 b) (aA a 2 (.fin [.val (.bool true)]) .bad))
theorem af9 (x0 x1:AV):CC Tryz.prog BK [x0,x1] (afk x0 x1):=cc Tryz.func55 [0,1,5] (fun r=>if r=6 then[(0,[]),(1,[]),(2,[]),(3,[]),(4,[]),(5,[]),(6,[]),(7,[]),(8,[]),(9,[])] else[])
def aff (x0 x1:AV):Prog:=Ln 0 x0 fun a=>Bn .sub x1 a fun a=>Bn .lss a (.int .i64 0) fun b=>.ite b (.fin [.val (.int .i64 (-1))]) (.loop [a,.int .i64 0] (fun a=>Ln 0 x0 fun b=>Bn .lss (g a 1) b fun b=>.ite b (Ix 12 x0 (g a 1) fun b=>Ld 12 b fun b=>Cl Jq [b,g a 0] fun b=>Bn .lss b (.int .i64 0) fun c=>.ite c (.fin [.val (.int .i64 (-1))]) (Bn .add (g a 1) (.int .i64 1) fun a=>.leaf 0 [b,a])) (.leaf 2 [g a 0,g a 1])) fun a b=>aA a 1 (.leaf 1 b) (aA a 2 (.fin [.val (g b 0)]) .bad))
theorem afX (x0 x1:AV):CC Tryz.prog BD [x0,x1] (aff x0 x1):=cc Tryz.func27 [0,1,5] (fun _=>[])
end
theorem aeD (xs:List Task) (hs:xs.length+szs xs≤1048576):dZ Tryz.prog Bt xs:=mY rfl rfl (by decide) hs (fun x hx=>agS x hx) (fun g=>afP _ g)
theorem aeT:EqS Task Tryz.prog BK:=fun xs v v' F F' h r r'=>reader (af9 _ _) (by simp only[old]) (mX rfl ag2 r r')
theorem aeK:SzL Task Tryz.prog BD:=fun xs ok v F b h r h0 h1=>reader (afX _ _) (by simp only[old]) (qN rfl agX ok r h0 h1)
end Go.Proofs.YtekfdoknfcedpaaGreat
end
section
set_option linter.unusedSimpArgs false
set_option linter.unusedVariables false
set_option maxHeartbeats 1000000
namespace Go.Proofs.YtekfdoknfcedpaaGreat
open Go Go.Ab
section
def QG (x0:AV):Prog:=.op (.box x0) fun a=>.op (.alloc j4) fun b=>.op (.alloc j4) fun c=>Lg 0 a fun d=>Sg 0 c d fun _=>Lg 1 a fun d=>Sg 1 c d fun _=>.op (.fad 2 a) fun d=>Ld 6 d fun d=>Cl mM [d] fun d=>.op (.fad 2 c) fun e=>.op (.st 6 e d) fun _=>Lg 8 a fun d=>Sg 8 c d fun _=>Lg 9 a fun d=>Sg 9 c d fun _=>Lg 10 a fun d=>Sg 10 c d fun _=>Lg 11 a fun d=>Sg 11 c d fun _=>Lg 12 a fun d=>Sg 12 c d fun _=>Lg 13 a fun d=>Sg 13 c d fun _=>Lg 14 a fun d=>Sg 14 c d fun _=>Lg 15 a fun d=>Sg 15 c d fun _=>Lg 16 a fun d=>Sg 16 c d fun _=>Lg 17 a fun d=>Sg 17 c d fun _=>Lg 18 a fun d=>Sg 18 c d fun _=>Lg 19 a fun a=>Sg 19 c a fun _=>Ld 20 c fun a=>.op (.st 20 b a) fun _=>.fin [.cn 20 b]
theorem ahM (x0:AV):CC Tryz.prog Jo [x0] (QG x0):=cc Tryz.func118
def QV (x0 x1:AV):Prog:=.op (.box x0) fun a=>.op (.box x1) fun b=>Lg 0 a fun c=>Lg 0 b fun d=>Bn .neq c d fun c=>.ite c (.fin [.val (.bool false)]) (Lg 1 a fun c=>Lg 1 b fun d=>Bn .neq c d fun c=>.ite c (.fin [.val (.bool false)]) (.op (.fad 2 a) fun c=>Ld 6 c fun c=>.op (.fad 2 b) fun d=>Ld 6 d fun d=>Cl mP [c,d] fun c=>.op (.una .not c) fun c=>.ite c (.fin [.val (.bool false)]) (Lg 8 a fun c=>Lg 8 b fun d=>Bn .neq c d fun c=>.ite c (.fin [.val (.bool false)]) (Lg 9 a fun c=>Lg 9 b fun d=>Bn .neq c d fun c=>.ite c (.fin [.val (.bool false)]) (Lg 10 a fun c=>Lg 10 b fun d=>Bn .neq c d fun c=>.ite c (.fin [.val (.bool false)]) (Lg 11 a fun c=>Lg 11 b fun d=>.op (.bin 2 .neq c d) fun c=>.ite c (.fin [.val (.bool false)]) (Lg 12 a fun c=>Lg 12 b fun d=>.op (.bin 2 .neq c d) fun c=>.ite c (.fin [.val (.bool false)]) (Lg 13 a fun c=>Lg 13 b fun d=>Bn .neq c d fun c=>.ite c (.fin [.val (.bool false)]) (Lg 14 a fun c=>Lg 14 b fun d=>Bn .neq c d fun c=>.ite c (.fin [.val (.bool false)]) (Lg 15 a fun c=>Lg 15 b fun d=>Bn .neq c d fun c=>.ite c (.fin [.val (.bool false)]) (Lg 16 a fun c=>Lg 16 b fun d=>Bn .neq c d fun c=>.ite c (.fin [.val (.bool false)]) (Lg 17 a fun c=>Lg 17 b fun d=>Bn .neq c d fun c=>.ite c (.fin [.val (.bool false)]) (Lg 18 a fun c=>Lg 18 b fun d=>Bn .neq c d fun c=>.ite c (.fin [.val (.bool false)]) (Lg 19 a fun a=>Lg 19 b fun b=>Bn .neq a b fun a=>.ite a (.fin [.val (.bool false)]) (.fin [.val (.bool true)])))))))))))))))
theorem ah0 (x0 x1:AV):CC Tryz.prog Jw [x0,x1] (QV x0 x1):=cc Tryz.func142
def QM (x0 x1:AV):Prog:=.op (.box x0) fun a=>.op (.fad 2 a) fun a=>Ld 6 a fun a=>Cl mO [a,x1] fun a=>Bn .lss a (.int .i64 0) fun b=>.ite b (.fin [.val (.int .i64 (-1))]) (.fin [.val a])
theorem ahT (x0 x1:AV):CC Tryz.prog Js [x0,x1] (QM x0 x1):=cc Tryz.func90
end
theorem agU (x:bN) (hs:Sz.sz x≤1048576):dA bN Tryz.prog Jo x:=by
 rintro cs F h ⟨v0,rfl,r0⟩
 have hs:Sz.sz x.s≤1048576:=hs
 have e_s:Sz.sz x.s=(x.s.attrs.length+szs x.s.attrs):=rfl
 refine ahM _ ?_
 unfold QG
 (repeat' first|refine vs ?_|((with_reducible refine aB mM ?_);(refine aT (Cc _ aP _ _ _ ⟨_,rfl,ah⟩) ?_;rintro _ _ ⟨e_,_,_,rfl,⟨_,rfl,_⟩,_⟩;have n_:=e_.1;(try simp only[aO,aV] at n_)))|fail)
 exact⟨rfl,_,rfl,aG,_,_,rfl,⟨_,rfl,ah⟩,bJ⟩
theorem ag4:EqC bN Tryz.prog Jw:=by
 rintro x cs cs' F F' h ⟨v0,rfl,r0⟩ ⟨u0,rfl,q0⟩
 refine reader (ah0 _ _) (by simp only[old]) ?_
 unfold QV
 (repeat' first|refine vs ?_|((with_reducible refine aB mP ?_);refine aQ (Cg _ _ _ _ _ _ ⟨_,rfl,ah⟩ ⟨_,rfl,ah⟩) ?_)|fail)
 exact pb rfl
theorem agZ:SzC bN Tryz.prog Js:=by
 rintro x ok cs F b h ⟨v0,rfl,r0⟩ h0 h1
 obtain⟨KQ,aob,vX,DN,xO,aoh,aoa,anm,an2,al1,aok,aoj,aoi⟩:=ok
 have hS:Sz.sz x=Sz.sz x.s:=rfl
 have e_s:Sz.sz x.s=(x.s.attrs.length+szs x.s.attrs):=rfl
 refine reader (ahT _ _) (by simp only[old]) ?_
 unfold QM
 (repeat' first|refine vs ?_|(refine br ?_ ?_<;>first|exact bo|intro _)|((with_reducible refine aB mO ?_);(refine fP (Ce _ (by assumption) _ _ _ _ ⟨_,rfl,ah⟩ aP aP) (fun _=>?_) (fun _=>?_)))|fail)
 all_goals(refine pi ?_;unfold szr;split<;>omega)
end Go.Proofs.YtekfdoknfcedpaaGreat
end
section
set_option linter.unusedSimpArgs false
set_option linter.unusedVariables false
set_option maxHeartbeats 1000000
namespace Go.Proofs.YtekfdoknfcedpaaGreat
open Go Go.Ab
section
def afd (x0:AV):Prog:=Ln 0 x0 fun a=>.op (.eX 20 168 j4 a a) fun a=>.loop [.int .i64 0] (fun b=>Ln 0 x0 fun c=>Bn .lss (g b 0) c fun c=>.ite c (Ix 20 x0 (g b 0) fun c=>Ld 20 c fun c=>Cl Jo [c] fun c=>Ix 20 a (g b 0) fun a=>.op (.st 20 a c) fun _=>Bn .add (g b 0) (.int .i64 1) fun a=>.leaf 0 [a]) (.leaf 2 [g b 0])) fun b c=>aA b 1 (.leaf 1 c) (aA b 2 (.fin [.val a]) .bad)
theorem afS (x0:AV):CC Tryz.prog Bv [x0] (afd x0):=cc Tryz.func41 [0,3,4] (fun _=>[])
def afn (x0 x1:AV):Prog:=Ln 0 x0 fun a=>Ln 0 x1 fun b=>Bn .neq a b fun a=>.ite a (.fin [.val (.bool false)]) (.loop [.int .i64 0] (fun a=>Ln 0 x0 fun b=>Bn .lss (g a 0) b fun b=>.ite b (Ix 20 x0 (g a 0) fun b=>Ld 20 b fun b=>Ix 20 x1 (g a 0) fun c=>Ld 20 c fun c=>Cl Jw [b,c] fun b=>.op (.una .not b) fun b=>.ite b (.fin [.val (.bool false)]) (Bn .add (g a 0) (.int .i64 1) fun a=>.leaf 0 [a])) (.leaf 2 [g a 0])) fun a b=>aA a 1 (.leaf 1 b) (aA a 2 (.fin [.val (.bool true)]) .bad))
theorem agc (x0 x1:AV):CC Tryz.prog BN [x0,x1] (afn x0 x1):=cc Tryz.func56 [0,1,5] (fun r=>if r=6 then[(0,[]),(1,[]),(2,[]),(3,[]),(4,[]),(5,[]),(6,[]),(7,[]),(8,[]),(9,[])] else[])
def afi (x0 x1:AV):Prog:=Ln 0 x0 fun a=>Bn .sub x1 a fun a=>Bn .lss a (.int .i64 0) fun b=>.ite b (.fin [.val (.int .i64 (-1))]) (.loop [a,.int .i64 0] (fun a=>Ln 0 x0 fun b=>Bn .lss (g a 1) b fun b=>.ite b (Ix 20 x0 (g a 1) fun b=>Ld 20 b fun b=>Cl Js [b,g a 0] fun b=>Bn .lss b (.int .i64 0) fun c=>.ite c (.fin [.val (.int .i64 (-1))]) (Bn .add (g a 1) (.int .i64 1) fun a=>.leaf 0 [b,a])) (.leaf 2 [g a 0,g a 1])) fun a b=>aA a 1 (.leaf 1 b) (aA a 2 (.fin [.val (g b 0)]) .bad))
theorem af0 (x0 x1:AV):CC Tryz.prog BG [x0,x1] (afi x0 x1):=cc Tryz.func28 [0,1,5] (fun _=>[])
end
theorem aeF (xs:List bN) (hs:xs.length+szs xs≤1048576):dZ Tryz.prog Bv xs:=mY rfl rfl (by decide) hs (fun x hx=>agU x hx) (fun g=>afS _ g)
theorem aeV:EqS bN Tryz.prog BN:=fun xs v v' F F' h r r'=>reader (agc _ _) (by simp only[old]) (mX rfl ag4 r r')
theorem aeM:SzL bN Tryz.prog BG:=fun xs ok v F b h r h0 h1=>reader (af0 _ _) (by simp only[old]) (qN rfl agZ ok r h0 h1)
end Go.Proofs.YtekfdoknfcedpaaGreat
end
section
set_option linter.unusedSimpArgs false
set_option linter.unusedVariables false
set_option maxHeartbeats 1000000
namespace Go.Proofs.YtekfdoknfcedpaaGreat
open Go Go.Ab
section
def abM (x0:AV):Prog:=Ln 0 x0 fun a=>.op (.eX 1 24 [.aF] a a) fun a=>.loop [.int .i64 0] (fun b=>Ln 0 x0 fun c=>Bn .lss (g b 0) c fun c=>.ite c (Ix 1 x0 (g b 0) fun c=>.op (.ld1 c) fun c=>Cl qx [c] fun c=>Ix 1 a (g b 0) fun a=>.op (.st 1 a c) fun _=>Bn .add (g b 0) (.int .i64 1) fun a=>.leaf 0 [a]) (.leaf 2 [g b 0])) fun b c=>aA b 1 (.leaf 1 c) (aA b 2 (.fin [.val a]) .bad)
theorem acg (x0:AV):CC Tryz.prog wu [x0] (abM x0):=cc Tryz.func114 [0,3,4] (fun _=>[])
def ab0 (x0 x1:AV):Prog:=Ln 0 x0 fun a=>Ln 0 x1 fun b=>Bn .neq a b fun a=>.ite a (.fin [.val (.bool false)]) (.loop [.int .i64 0] (fun a=>Ln 0 x0 fun b=>Bn .lss (g a 0) b fun b=>.ite b (Ix 1 x0 (g a 0) fun b=>.op (.ld1 b) fun b=>Ix 1 x1 (g a 0) fun c=>.op (.ld1 c) fun c=>Cl qz [b,c] fun b=>.op (.una .not b) fun b=>.ite b (.fin [.val (.bool false)]) (Bn .add (g a 0) (.int .i64 1) fun a=>.leaf 0 [a])) (.leaf 2 [g a 0])) fun a b=>aA a 1 (.leaf 1 b) (aA a 2 (.fin [.val (.bool true)]) .bad))
theorem acF (x0 x1:AV):CC Tryz.prog wB [x0,x1] (ab0 x0 x1):=cc Tryz.func138 [0,1,5] (fun r=>if r=6 then[(0,[]),(1,[]),(2,[]),(3,[]),(4,[]),(5,[]),(6,[]),(7,[]),(8,[]),(9,[])] else[])
def abO (x0 x1:AV):Prog:=Ln 0 x0 fun a=>Bn .sub x1 a fun a=>Bn .lss a (.int .i64 0) fun b=>.ite b (.fin [.val (.int .i64 (-1))]) (.loop [a,.int .i64 0] (fun a=>Ln 0 x0 fun b=>Bn .lss (g a 1) b fun b=>.ite b (Ix 1 x0 (g a 1) fun b=>.op (.ld1 b) fun b=>Cl qy [b,g a 0] fun b=>Bn .lss b (.int .i64 0) fun c=>.ite c (.fin [.val (.int .i64 (-1))]) (Bn .add (g a 1) (.int .i64 1) fun a=>.leaf 0 [b,a])) (.leaf 2 [g a 0,g a 1])) fun a b=>aA a 1 (.leaf 1 b) (aA a 2 (.fin [.val (g b 0)]) .bad))
theorem aci (x0 x1:AV):CC Tryz.prog wz [x0,x1] (abO x0 x1):=cc Tryz.func87 [0,1,5] (fun _=>[])
def O9 (x0:AV):Prog:=.op (.box x0) fun a=>.op (.alloc [.int .i64 0,.int .i64 0,.int .i64 0]) fun b=>.op (.alloc [.int .i64 0,.int .i64 0,.int .i64 0]) fun c=>Lg 0 a fun d=>Sg 0 c d fun _=>Lg 1 a fun d=>Sg 1 c d fun _=>Lg 2 a fun a=>Sg 2 c a fun _=>Ld 3 c fun a=>.op (.st 3 b a) fun _=>.fin [.cn 3 b]
theorem afO (x0:AV):CC Tryz.prog IW [x0] (O9 x0):=cc Tryz.func115
def Pp (x0 x1:AV):Prog:=.op (.box x0) fun a=>.op (.box x1) fun b=>Lg 0 a fun c=>Lg 0 b fun d=>Bn .neq c d fun c=>.ite c (.fin [.val (.bool false)]) (Lg 1 a fun c=>Lg 1 b fun d=>Bn .neq c d fun c=>.ite c (.fin [.val (.bool false)]) (Lg 2 a fun a=>Lg 2 b fun b=>Bn .neq a b fun a=>.ite a (.fin [.val (.bool false)]) (.fin [.val (.bool true)])))
theorem af8 (x0 x1:AV):CC Tryz.prog I4 [x0,x1] (Pp x0 x1):=cc Tryz.func139
def adw (x0:AV):Prog:=Ln 0 x0 fun a=>.op (.eX 3 24 [.int .i64 0,.int .i64 0,.int .i64 0] a a) fun a=>.loop [.int .i64 0] (fun b=>Ln 0 x0 fun c=>Bn .lss (g b 0) c fun c=>.ite c (Ix 3 x0 (g b 0) fun c=>Ld 3 c fun c=>Cl IW [c] fun c=>Ix 3 a (g b 0) fun a=>.op (.st 3 a c) fun _=>Bn .add (g b 0) (.int .i64 1) fun a=>.leaf 0 [a]) (.leaf 2 [g b 0])) fun b c=>aA b 1 (.leaf 1 c) (aA b 2 (.fin [.val a]) .bad)
theorem adP (x0:AV):CC Tryz.prog qx [x0] (adw x0):=cc Tryz.func38 [0,3,4] (fun _=>[])
def adC (x0 x1:AV):Prog:=Ln 0 x0 fun a=>Ln 0 x1 fun b=>Bn .neq a b fun a=>.ite a (.fin [.val (.bool false)]) (.loop [.int .i64 0] (fun a=>Ln 0 x0 fun b=>Bn .lss (g a 0) b fun b=>.ite b (Ix 3 x0 (g a 0) fun b=>Ld 3 b fun b=>Ix 3 x1 (g a 0) fun c=>Ld 3 c fun c=>Cl I4 [b,c] fun b=>.op (.una .not b) fun b=>.ite b (.fin [.val (.bool false)]) (Bn .add (g a 0) (.int .i64 1) fun a=>.leaf 0 [a])) (.leaf 2 [g a 0])) fun a b=>aA a 1 (.leaf 1 b) (aA a 2 (.fin [.val (.bool true)]) .bad))
theorem ad2 (x0 x1:AV):CC Tryz.prog qz [x0,x1] (adC x0 x1):=cc Tryz.func53 [0,1,5] (fun r=>if r=6 then[(0,[]),(1,[]),(2,[]),(3,[]),(4,[]),(5,[]),(6,[]),(7,[]),(8,[]),(9,[])] else[])
def ady (x0 x1:AV):Prog:=Ln 0 x0 fun a=>Bn .sub x1 a fun a=>Bn .lss a (.int .i64 0) fun b=>.ite b (.fin [.val (.int .i64 (-1))]) (.fin [.val a])
theorem adT (x0 x1:AV):CC Tryz.prog qy [x0,x1] (ady x0 x1):=cc Tryz.func25
end
theorem aeC (x:Ab.Timer) (hs:Sz.sz x≤1048576):dA Ab.Timer Tryz.prog IW x:=by
 rintro cs F h ⟨rfl,rfl⟩
 have hs:0≤1048576:=hs
 refine afO _ ?_
 unfold O9
 (repeat' first|refine vs ?_|fail)
 exact⟨rfl,_,rfl,aG,_,_,rfl,⟨rfl,rfl⟩,Own.nil⟩
theorem aeS:EqC Ab.Timer Tryz.prog I4:=by
 rintro x cs cs' F F' h ⟨rfl,rfl⟩ ⟨rfl,rfl⟩
 refine reader (af8 _ _) (by simp only[old]) ?_
 unfold Pp
 (repeat' first|refine vs ?_|fail)
 exact pb rfl
theorem Im (xs:List Ab.Timer) (hs:xs.length+szs xs≤1048576):dZ Tryz.prog qx xs:=mY rfl rfl (by decide) hs (fun x hx=>aeC x hx) (fun g=>adP _ g)
theorem Ip:EqS Ab.Timer Tryz.prog qz:=fun xs v v' F F' h r r'=>reader (ad2 _ _) (by simp only[old]) (mX rfl aeS r r')
theorem Io:SzL Ab.Timer Tryz.prog qy:=fun xs _ v F b h r h0 h1=>reader (adT _ _) (by simp only[old]) (by have:=Tt (P:=Tryz.prog) r h0 h1;rw[JX (fun _=>rfl)];exact this)
theorem abf (xs:List (List Ab.Timer)) (hs:xs.length+szs xs≤1048576):dZ Tryz.prog wu xs:=fun v F h r=>acg _ (toSS_spec (w:=1) rfl rfl rfl (fun x hx=>Im x (by have:=bI hx;have h2:Sz.sz x=x.length+szs x:=rfl;omega)) r (by omega))
theorem abu:EqS (List Ab.Timer) Tryz.prog wB:=fun xs v v' F F' h r r'=>reader (acF _ _) (by simp only[old]) (aj2 Ip r r')
theorem abh:SzL (List Ab.Timer) Tryz.prog wz:=fun xs ok v F b h r h0 h1=>reader (aci _ _) (by simp only[old]) (ajK Io ok r h0 h1)
end Go.Proofs.YtekfdoknfcedpaaGreat
end
section
set_option linter.unusedSimpArgs false
set_option linter.unusedVariables false
set_option maxHeartbeats 1000000
namespace Go.Proofs.YtekfdoknfcedpaaGreat
open Go Go.Ab
section
def O7 (x0:AV):Prog:=.op (.box x0) fun a=>.op (.alloc [.int .i64 0,.aF,.aF,.aF]) fun b=>.op (.alloc [.int .i64 0,.aF,.aF,.aF]) fun c=>Lg 0 a fun d=>Sg 0 c d fun _=>Lg 1 a fun d=>Cl wu [d] fun d=>Sg 1 c d fun _=>Lg 2 a fun d=>Cl wu [d] fun d=>Sg 2 c d fun _=>Lg 3 a fun a=>Cl qx [a] fun a=>Sg 3 c a fun _=>Ld 4 c fun a=>.op (.st 4 b a) fun _=>.fin [.cn 4 b]
theorem afM (x0:AV):CC Tryz.prog Br [x0] (O7 x0):=cc Tryz.func37
def Pn (x0 x1:AV):Prog:=.op (.box x0) fun a=>.op (.box x1) fun b=>Lg 0 a fun c=>Lg 0 b fun d=>Bn .neq c d fun c=>.ite c (.fin [.val (.bool false)]) (Lg 1 a fun c=>Lg 1 b fun d=>Cl wB [c,d] fun c=>.op (.una .not c) fun c=>.ite c (.fin [.val (.bool false)]) (Lg 2 a fun c=>Lg 2 b fun d=>Cl wB [c,d] fun c=>.op (.una .not c) fun c=>.ite c (.fin [.val (.bool false)]) (Lg 3 a fun a=>Lg 3 b fun b=>Cl qz [a,b] fun a=>.op (.una .not a) fun a=>.ite a (.fin [.val (.bool false)]) (.fin [.val (.bool true)]))))
theorem af6 (x0 x1:AV):CC Tryz.prog BJ [x0,x1] (Pn x0 x1):=cc Tryz.func52
def Pf (x0 x1:AV):Prog:=.op (.box x0) fun a=>Lg 1 a fun b=>Cl wz [b,x1] fun b=>Bn .lss b (.int .i64 0) fun c=>.ite c (.fin [.val (.int .i64 (-1))]) (Lg 2 a fun c=>Cl wz [c,b] fun b=>Bn .lss b (.int .i64 0) fun c=>.ite c (.fin [.val (.int .i64 (-1))]) (Lg 3 a fun a=>Cl qy [a,b] fun a=>Bn .lss a (.int .i64 0) fun b=>.ite b (.fin [.val (.int .i64 (-1))]) (.fin [.val a])))
theorem afV (x0 x1:AV):CC Tryz.prog BA [x0,x1] (Pf x0 x1):=cc Tryz.func24
end
theorem aeA (x:dN) (hs:Sz.sz x≤1048576):dA dN Tryz.prog Br x:=by
 rintro cs F h ⟨v0,v1,v2,F0,F1,F2,rfl,rfl,r0,r1,r2⟩
 have hs:(x.near.length+szs x.near)+(x.far.length+szs x.far)+(x.rest.length+szs x.rest)≤1048576:=hs
 refine afM _ ?_
 unfold O7
 (repeat' first|refine vs ?_|((with_reducible refine aB wu ?_);(refine aT (ku abf ah aP) ?_;rintro _ _ ⟨e_,_,_,_⟩;have n_:=e_.1;(try simp only[aO,aV] at n_)))|((with_reducible refine aB qx ?_);(refine aT (ku Im ah aP) ?_;rintro _ _ ⟨e_,_,_,_⟩;have n_:=e_.1;(try simp only[aO,aV] at n_)))|fail)
 exact⟨rfl,_,rfl,aG,_,_,rfl,⟨_,_,_,_,_,_,rfl,rfl,ah,ah,ah⟩,(dh bU (dh bU bU dD) dD).1⟩
theorem aeQ:EqC dN Tryz.prog BJ:=by
 rintro x cs cs' F F' h ⟨v0,v1,v2,F0,F1,F2,rfl,rfl,r0,r1,r2⟩ ⟨u0,u1,u2,G0,G1,G2,rfl,rfl,q0,q1,q2⟩
 refine reader (af6 _ _) (by simp only[old]) ?_
 unfold Pn
 (repeat' first|refine vs ?_|((with_reducible refine aB wB ?_);refine aQ (abu _ _ _ _ _ _ ah ah) ?_)|((with_reducible refine aB qz ?_);refine aQ (Ip _ _ _ _ _ _ ah ah) ?_)|fail)
 exact pb rfl
theorem aeI:SzC dN Tryz.prog BA:=by
 rintro x ok cs F b h ⟨v0,v1,v2,F0,F1,F2,rfl,rfl,r0,r1,r2⟩ h0 h1
 obtain⟨al1,aof,aom,aod⟩:=ok
 have hS:Sz.sz x=(x.near.length+szs x.near)+(x.far.length+szs x.far)+(x.rest.length+szs x.rest):=rfl
 refine reader (afV _ _) (by simp only[old]) ?_
 unfold Pf
 (repeat' first|refine vs ?_|(refine br ?_ ?_<;>first|exact bo|intro _)|((with_reducible refine aB wz ?_);(refine fP (szl abh ah (by assumption) aP aP) (fun _=>?_) (fun _=>?_)))|((with_reducible refine aB qy ?_);(refine fP (szl Io ah (by assumption) aP aP) (fun _=>?_) (fun _=>?_)))|fail)
 all_goals(refine pi ?_;unfold szr;split<;>omega)
end Go.Proofs.YtekfdoknfcedpaaGreat
end
section
set_option linter.unusedSimpArgs false
set_option linter.unusedVariables false
set_option maxHeartbeats 1000000
namespace Go.Proofs.YtekfdoknfcedpaaGreat
open Go Go.Ab
section
def MS (x0:AV):Prog:=.op (.box x0) fun a=>.op (.alloc [.int .i64 0,.int .i64 0,.bool false]) fun b=>.op (.alloc [.int .i64 0,.int .i64 0,.bool false]) fun c=>Lg 0 a fun d=>Sg 0 c d fun _=>Lg 1 a fun d=>Sg 1 c d fun _=>Lg 2 a fun a=>Sg 2 c a fun _=>Ld 3 c fun a=>.op (.st 3 b a) fun _=>.fin [.cn 3 b]
theorem acf (x0:AV):CC Tryz.prog HV [x0] (MS x0):=cc Tryz.func113
def MZ (x0 x1:AV):Prog:=.op (.box x0) fun a=>.op (.box x1) fun b=>Lg 0 a fun c=>Lg 0 b fun d=>Bn .neq c d fun c=>.ite c (.fin [.val (.bool false)]) (Lg 1 a fun c=>Lg 1 b fun d=>Bn .neq c d fun c=>.ite c (.fin [.val (.bool false)]) (Lg 2 a fun a=>Lg 2 b fun b=>.op (.bin 2 .neq a b) fun a=>.ite a (.fin [.val (.bool false)]) (.fin [.val (.bool true)])))
theorem acE (x0 x1:AV):CC Tryz.prog Ia [x0,x1] (MZ x0 x1):=cc Tryz.func137
def aaL (x0:AV):Prog:=Ln 0 x0 fun a=>.op (.eX 3 24 [.int .i64 0,.int .i64 0,.bool false] a a) fun a=>.loop [.int .i64 0] (fun b=>Ln 0 x0 fun c=>Bn .lss (g b 0) c fun c=>.ite c (Ix 3 x0 (g b 0) fun c=>Ld 3 c fun c=>Cl HV [c] fun c=>Ix 3 a (g b 0) fun a=>.op (.st 3 a c) fun _=>Bn .add (g b 0) (.int .i64 1) fun a=>.leaf 0 [a]) (.leaf 2 [g b 0])) fun b c=>aA b 1 (.leaf 1 c) (aA b 2 (.fin [.val a]) .bad)
theorem aaT (x0:AV):CC Tryz.prog zJ [x0] (aaL x0):=cc Tryz.func36 [0,3,4] (fun _=>[])
def aaR (x0 x1:AV):Prog:=Ln 0 x0 fun a=>Ln 0 x1 fun b=>Bn .neq a b fun a=>.ite a (.fin [.val (.bool false)]) (.loop [.int .i64 0] (fun a=>Ln 0 x0 fun b=>Bn .lss (g a 0) b fun b=>.ite b (Ix 3 x0 (g a 0) fun b=>Ld 3 b fun b=>Ix 3 x1 (g a 0) fun c=>Ld 3 c fun c=>Cl Ia [b,c] fun b=>.op (.una .not b) fun b=>.ite b (.fin [.val (.bool false)]) (Bn .add (g a 0) (.int .i64 1) fun a=>.leaf 0 [a])) (.leaf 2 [g a 0])) fun a b=>aA a 1 (.leaf 1 b) (aA a 2 (.fin [.val (.bool true)]) .bad))
theorem aaZ (x0 x1:AV):CC Tryz.prog zN [x0,x1] (aaR x0 x1):=cc Tryz.func51 [0,1,5] (fun r=>if r=6 then[(0,[]),(1,[]),(2,[]),(3,[]),(4,[]),(5,[]),(6,[]),(7,[]),(8,[]),(9,[])] else[])
def aaM (x0 x1:AV):Prog:=Ln 0 x0 fun a=>Bn .sub x1 a fun a=>Bn .lss a (.int .i64 0) fun b=>.ite b (.fin [.val (.int .i64 (-1))]) (.fin [.val a])
theorem aaU (x0 x1:AV):CC Tryz.prog zK [x0,x1] (aaM x0 x1):=cc Tryz.func23
end
theorem abe (x:bM) (hs:Sz.sz x≤1048576):dA bM Tryz.prog HV x:=by
 rintro cs F h ⟨rfl,rfl⟩
 have hs:0≤1048576:=hs
 refine acf _ ?_
 unfold MS
 (repeat' first|refine vs ?_|fail)
 exact⟨rfl,_,rfl,aG,_,_,rfl,⟨rfl,rfl⟩,Own.nil⟩
theorem abt:EqC bM Tryz.prog Ia:=by
 rintro x cs cs' F F' h ⟨rfl,rfl⟩ ⟨rfl,rfl⟩
 refine reader (acE _ _) (by simp only[old]) ?_
 unfold MZ
 (repeat' first|refine vs ?_|fail)
 exact pb rfl
theorem aav (xs:List bM) (hs:xs.length+szs xs≤1048576):dZ Tryz.prog zJ xs:=mY rfl rfl (by decide) hs (fun x hx=>abe x hx) (fun g=>aaT _ g)
theorem aaz:EqS bM Tryz.prog zN:=fun xs v v' F F' h r r'=>reader (aaZ _ _) (by simp only[old]) (mX rfl abt r r')
theorem aaw:SzL bM Tryz.prog zK:=fun xs _ v F b h r h0 h1=>reader (aaU _ _) (by simp only[old]) (by have:=Tt (P:=Tryz.prog) r h0 h1;rw[JX (fun _=>rfl)];exact this)
end Go.Proofs.YtekfdoknfcedpaaGreat
end
section
set_option linter.unusedSimpArgs false
set_option linter.unusedVariables false
set_option maxHeartbeats 1000000
namespace Go.Proofs.YtekfdoknfcedpaaGreat
open Go Go.Ab
section
def NI (x0:AV):Prog:=.op (.box x0) fun a=>.op (.alloc [.int .i64 0,.int .i64 0,.int .i64 0,.int .i64 0]) fun b=>.op (.alloc [.int .i64 0,.int .i64 0,.int .i64 0,.int .i64 0]) fun c=>Lg 0 a fun d=>Sg 0 c d fun _=>Lg 1 a fun d=>Sg 1 c d fun _=>Lg 2 a fun d=>Sg 2 c d fun _=>Lg 3 a fun a=>Sg 3 c a fun _=>Ld 4 c fun a=>.op (.st 4 b a) fun _=>.fin [.cn 4 b]
theorem adR (x0:AV):CC Tryz.prog Az [x0] (NI x0):=cc Tryz.func35
def NR (x0 x1:AV):Prog:=.op (.box x0) fun a=>.op (.box x1) fun b=>Lg 0 a fun c=>Lg 0 b fun d=>Bn .neq c d fun c=>.ite c (.fin [.val (.bool false)]) (Lg 1 a fun c=>Lg 1 b fun d=>Bn .neq c d fun c=>.ite c (.fin [.val (.bool false)]) (Lg 2 a fun c=>Lg 2 b fun d=>Bn .neq c d fun c=>.ite c (.fin [.val (.bool false)]) (Lg 3 a fun a=>Lg 3 b fun b=>Bn .neq a b fun a=>.ite a (.fin [.val (.bool false)]) (.fin [.val (.bool true)]))))
theorem ad4 (x0 x1:AV):CC Tryz.prog AJ [x0,x1] (NR x0 x1):=cc Tryz.func50
end
theorem ac9 (x:Bucket) (hs:Sz.sz x≤1048576):dA Bucket Tryz.prog Az x:=by
 rintro cs F h ⟨rfl,rfl⟩
 have hs:0≤1048576:=hs
 refine adR _ ?_
 unfold NI
 (repeat' first|refine vs ?_|fail)
 exact⟨rfl,_,rfl,aG,_,_,rfl,⟨rfl,rfl⟩,Own.nil⟩
theorem adk:EqC Bucket Tryz.prog AJ:=by
 rintro x cs cs' F F' h ⟨rfl,rfl⟩ ⟨rfl,rfl⟩
 refine reader (ad4 _ _) (by simp only[old]) ?_
 unfold NR
 (repeat' first|refine vs ?_|fail)
 exact pb rfl
end Go.Proofs.YtekfdoknfcedpaaGreat
end
section
set_option linter.unusedSimpArgs false
set_option linter.unusedVariables false
set_option maxHeartbeats 1000000
namespace Go.Proofs.YtekfdoknfcedpaaGreat
open Go Go.Ab
section
def QH (x0:AV):Prog:=.op (.box x0) fun a=>.op (.alloc uW) fun b=>.op (.alloc uW) fun c=>Lg 0 a fun d=>Sg 0 c d fun _=>Lg 1 a fun d=>Sg 1 c d fun _=>Lg 2 a fun d=>Sg 2 c d fun _=>Lg 3 a fun d=>Sg 3 c d fun _=>Lg 4 a fun d=>Sg 4 c d fun _=>Lg 5 a fun d=>Sg 5 c d fun _=>Lg 6 a fun d=>Sg 6 c d fun _=>.op (.fad 7 a) fun a=>Ld 5 a fun a=>Cl qJ [a] fun a=>.op (.fad 7 c) fun d=>.op (.st 5 d a) fun _=>Ld 12 c fun a=>.op (.st 12 b a) fun _=>.fin [.cn 12 b]
theorem ahN (x0:AV):CC Tryz.prog Cr [x0] (QH x0):=cc Tryz.func33
def QW (x0 x1:AV):Prog:=.op (.box x0) fun a=>.op (.box x1) fun b=>Lg 0 a fun c=>Lg 0 b fun d=>Bn .neq c d fun c=>.ite c (.fin [.val (.bool false)]) (Lg 1 a fun c=>Lg 1 b fun d=>Bn .neq c d fun c=>.ite c (.fin [.val (.bool false)]) (Lg 2 a fun c=>Lg 2 b fun d=>Bn .neq c d fun c=>.ite c (.fin [.val (.bool false)]) (Lg 3 a fun c=>Lg 3 b fun d=>Bn .neq c d fun c=>.ite c (.fin [.val (.bool false)]) (Lg 4 a fun c=>Lg 4 b fun d=>Bn .neq c d fun c=>.ite c (.fin [.val (.bool false)]) (Lg 5 a fun c=>Lg 5 b fun d=>Bn .neq c d fun c=>.ite c (.fin [.val (.bool false)]) (Lg 6 a fun c=>Lg 6 b fun d=>Bn .neq c d fun c=>.ite c (.fin [.val (.bool false)]) (.op (.fad 7 a) fun a=>Ld 5 a fun a=>.op (.fad 7 b) fun b=>Ld 5 b fun b=>Cl uq [a,b] fun a=>.op (.una .not a) fun a=>.ite a (.fin [.val (.bool false)]) (.fin [.val (.bool true)]))))))))
theorem ah1 (x0 x1:AV):CC Tryz.prog Cu [x0,x1] (QW x0 x1):=cc Tryz.func48
def QN (x0 x1:AV):Prog:=.op (.box x0) fun a=>.op (.fad 7 a) fun a=>Ld 5 a fun a=>Cl uo [a,x1] fun a=>Bn .lss a (.int .i64 0) fun b=>.ite b (.fin [.val (.int .i64 (-1))]) (.fin [.val a])
theorem ahU (x0 x1:AV):CC Tryz.prog Ct [x0,x1] (QN x0 x1):=cc Tryz.func21
end
theorem agV (x:fF) (hs:Sz.sz x≤1048576):dA fF Tryz.prog Cr x:=by
 rintro cs F h ⟨v0,rfl,r0⟩
 have hs:Sz.sz x.rule≤1048576:=hs
 have amb:Sz.sz x.rule=x.rule.key.size+x.rule.text.size+(x.rule.l.length+szs x.rule.l):=Pol.nJ _
 refine ahN _ ?_
 unfold QH
 (repeat' first|refine vs ?_|((with_reducible refine aB qJ ?_);(refine aT (Rl _ aP _ _ _ (Pol.bX.2 ⟨_,rfl,ah⟩)) ?_;rintro _ _ ⟨e_,_,_,rfl,r_,_⟩;obtain⟨_,rfl,_⟩:=Pol.bX.1 r_;have n_:=e_.1;(try simp only[aO,aV] at n_)))|fail)
 exact⟨rfl,_,rfl,aG,_,_,rfl,⟨_,rfl,ah⟩,bJ⟩
theorem ag5:EqC fF Tryz.prog Cu:=by
 rintro x cs cs' F F' h ⟨v0,rfl,r0⟩ ⟨u0,rfl,q0⟩
 refine reader (ah1 _ _) (by simp only[old]) ?_
 unfold QW
 (repeat' first|refine vs ?_|((with_reducible refine aB uq ?_);refine aQ (Rn _ _ _ _ _ _ (Pol.bX.2 ⟨_,rfl,ah⟩) (Pol.bX.2 ⟨_,rfl,ah⟩)) ?_)|fail)
 exact pb rfl
theorem ag0:SzC fF Tryz.prog Ct:=by
 rintro x ok cs F b h ⟨v0,rfl,r0⟩ h0 h1
 obtain⟨an1,an9,an3,uP,oO,aoe,an7,aoc⟩:=ok
 have hS:Sz.sz x=Sz.sz x.rule:=rfl
 have amb:Sz.sz x.rule=x.rule.key.size+x.rule.text.size+(x.rule.l.length+szs x.rule.l):=Pol.nJ _
 refine reader (ahU _ _) (by simp only[old]) ?_
 unfold QN
 (repeat' first|refine vs ?_|(refine br ?_ ?_<;>first|exact bo|intro _)|((with_reducible refine aB uo ?_);(refine fP (Rm _ (by assumption) _ _ _ _ (Pol.bX.2 ⟨_,rfl,ah⟩) aP aP) (fun _=>?_) (fun _=>?_)))|fail)
 all_goals(refine pi ?_;unfold szr;split<;>omega)
end Go.Proofs.YtekfdoknfcedpaaGreat
end
