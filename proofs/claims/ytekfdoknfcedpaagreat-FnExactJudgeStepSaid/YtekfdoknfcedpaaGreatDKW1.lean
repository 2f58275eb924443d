import Derived.Test.YtekfdoknfcedpaaGreatDNm
import Derived.Test.YtekfdoknfcedpaaGreatDK4
section
set_option linter.unusedSimpArgs false
set_option linter.unusedVariables false
namespace Go.Proofs.YtekfdoknfcedpaaGreat
open Go Go.Ab
section
def QY (x0 x1 x2:AV):Prog:=Bn .geq x0 x1 fun a=>.gop a true (.mv x0) fun b=>.gop a true (.mv x2) fun c=>.gop a true (.bin 0 .leq b c) fun b=>Pk a b (.bool false) fun a=>.fin [.val a]
theorem ah3 (x0 x1 x2:AV):CC Tryz.prog bK [x0,x1,x2] (QY x0 x1 x2):=cc Tryz.func44
def RL (x0 x1 x2:AV):Prog:=Bn .geq x0 x1 fun a=>.gop a true (.mv x0) fun b=>.gop a true (.mv x2) fun c=>.gop a true (.bin 0 .leq b c) fun b=>Pk a b (.bool false) fun a=>.fin [.val a]
theorem aiZ (x0 x1 x2:AV):CC Tryz.prog bP [x0,x1,x2] (RL x0 x1 x2):=cc Tryz.func31
def Sw (x0:AV):Prog:=.op (.mnx false [x0,.int .i64 0]) fun a=>.op (.mnx true [a,.int .i64 2147483647]) fun a=>.fin [.val a]
theorem ajC (x0:AV):CC Tryz.prog gQ [x0] (Sw x0):=cc Tryz.func220
def Sm (x0:AV):Prog:=Bn .lss x0 (.int .i64 0) fun a=>.ite a (.fin [.val (.int .i64 0)]) (Bn .gtr x0 (.int .i64 2147483647) fun a=>.ite a (.fin [.val (.int .i64 2147483647)]) (.fin [.val x0]))
theorem ajx (x0:AV):CC Tryz.prog gD [x0] (Sm x0):=cc Tryz.func262
def Sy (x0 x1:AV):Prog:=Cl gQ [x0] fun a=>Cl gQ [x1] fun b=>Bn .add a b fun a=>Cl gQ [a] fun a=>.fin [.val a]
theorem ajD (x0 x1:AV):CC Tryz.prog CY [x0,x1] (Sy x0 x1):=cc Tryz.func215
def Sn (x0 x1:AV):Prog:=Cl gD [x0] fun a=>Cl gD [x1] fun b=>Bn .add a b fun a=>Cl gD [a] fun a=>.fin [.val a]
theorem ajy (x0 x1:AV):CC Tryz.prog CV [x0,x1] (Sn x0 x1):=cc Tryz.func257
end
def inB (a lo hi:Int):Bool:=decide (lo≤a∧a≤hi)
theorem dx {a lo hi:Int} (h:inB a lo hi=true):lo≤a∧a≤hi:=by simpa[inB] using h
theorem dz {a lo hi:Int} (h:inB a lo hi=false): ¬ (lo≤a∧a≤hi):=by simpa[inB] using h
theorem fV {h:AH} {a lo hi:Int}:aN Tryz.prog bP [.int .i64 a,.int .i64 lo,.int .i64 hi] h (.bool (inB a lo hi)):=by
 refine reader (aiZ _ _ _) (by simp only[old]) ?_
 unfold RL
 (repeat' first|refine vs ?_|(refine br ?_ ?_<;>first|exact bx|intro _)|fail)
 all_goals(refine pb ?_;simp[inB];omega)
theorem eY {h:AH} {a lo hi:Int}:aN Tryz.prog bK [.int .i64 a,.int .i64 lo,.int .i64 hi] h (.bool (inB a lo hi)):=by
 refine reader (ah3 _ _ _) (by simp only[old]) ?_
 unfold QY
 (repeat' first|refine vs ?_|(refine br ?_ ?_<;>first|exact bx|intro _)|fail)
 all_goals(refine pb ?_;simp[inB];omega)
def cap (n:Int):Int:=min (max n 0) 2147483647
theorem jS (n:Int):0≤cap n∧cap n≤2147483647:=by unfold cap;omega
theorem xk {h:AH} {a:Int}:aN Tryz.prog gQ [.int .i64 a] h (.int .i64 (cap a)):=by
 refine reader (ajC _) (by simp only[old]) ?_
 unfold Sw
 (repeat' first|refine vs ?_|fail)
 exact pi rfl
theorem xg {h:AH} {a:Int}:aN Tryz.prog gD [.int .i64 a] h (.int .i64 (cap a)):=by
 refine reader (ajx _) (by simp only[old]) ?_
 unfold Sm
 (repeat' first|refine vs ?_|(refine br ?_ ?_<;>first|exact bx|intro _)|fail)
 all_goals(refine pi ?_;unfold cap;omega)
def GD (a b:Int):Int:=cap (cap a+cap b)
theorem ajd {h:AH} {a b:Int}:aN Tryz.prog CY [.int .i64 a,.int .i64 b] h (.int .i64 (GD a b)):=by
 refine reader (ajD _ _) (by simp only[old]) ?_
 unfold Sy
 have:=jS a;have:=jS b
 (repeat' first|refine vs ?_|((with_reducible refine aB gQ ?_);refine aQ xk ?_)|fail)
 exact pi rfl
theorem aja {h:AH} {a b:Int}:aN Tryz.prog CV [.int .i64 a,.int .i64 b] h (.int .i64 (GD a b)):=by
 refine reader (ajy _ _) (by simp only[old]) ?_
 unfold Sn
 have:=jS a;have:=jS b
 (repeat' first|refine vs ?_|((with_reducible refine aB gD ?_);refine aQ xg ?_)|fail)
 exact pi rfl
end Go.Proofs.YtekfdoknfcedpaaGreat
end
section
set_option linter.unusedSimpArgs false
set_option linter.unusedVariables false
namespace Go.Proofs.YtekfdoknfcedpaaGreat
open Go Go.Ab
section
def Ra (x0:AV):Prog:=.loop [.int .i64 0] (fun a=>Ln 1 x0 fun b=>Bn .lss (g a 0) b fun b=>.ite b (.op (.ig x0 (g a 0)) fun b=>Bn .lss b (.int .u8 97) fun b=>.gop b false (.mv x0) fun c=>.gop b false (.mv (g a 0)) fun d=>.gop b false (.ig c d) fun c=>.gop b false (.bin 0 .gtr c (.int .u8 122)) fun c=>Pk b (.bool true) c fun b=>.ite b (.fin [.val (.bool false)]) (Bn .add (g a 0) (.int .i64 1) fun a=>.leaf 0 [a])) (.leaf 2 [g a 0])) fun a b=>aA a 1 (.leaf 1 b) (aA a 2 (Ln 1 x0 fun a=>Cl bK [a,.int .i64 1,.int .i64 8] fun a=>.fin [.val a]) .bad)
theorem aib (x0:AV):CC Tryz.prog oC [x0] (Ra x0):=cc Tryz.func326 [0,3] (fun _=>[])
def Qw (x0:AV):Prog:=.loop [.int .i64 0] (fun a=>Ln 1 x0 fun b=>Bn .lss (g a 0) b fun b=>.ite b (.op (.ig x0 (g a 0)) fun b=>Bn .lss b (.int .u8 97) fun b=>.gop b false (.mv x0) fun c=>.gop b false (.mv (g a 0)) fun d=>.gop b false (.ig c d) fun c=>.gop b false (.bin 0 .gtr c (.int .u8 122)) fun c=>Pk b (.bool true) c fun b=>.ite b (.fin [.val (.bool false)]) (Bn .add (g a 0) (.int .i64 1) fun a=>.leaf 0 [a])) (.leaf 2 [g a 0])) fun a b=>aA a 1 (.leaf 1 b) (aA a 2 (Ln 1 x0 fun a=>Cl bP [a,.int .i64 1,.int .i64 8] fun a=>.fin [.val a]) .bad)
theorem ahC (x0:AV):CC Tryz.prog qI [x0] (Qw x0):=cc Tryz.func328 [0,3] (fun _=>[])
def PU (x0:AV):Prog:=.loop [.int .i64 0] (fun a=>Ln 1 x0 fun b=>Bn .lss (g a 0) b fun b=>.ite b (.op (.ig x0 (g a 0)) fun b=>.op (.conv .i64 b) fun b=>Cl bK [b,.int .i64 32,.int .i64 126] fun b=>.op (.una .not b) fun b=>.gop b false (.mv x0) fun c=>.gop b false (.mv (g a 0)) fun d=>.gop b false (.ig c d) fun c=>.gop b false (.bin 0 .eql c (.int .u8 34)) fun c=>Pk b (.bool true) c fun b=>.ite b (.fin [.val (.bool false)]) (Bn .add (g a 0) (.int .i64 1) fun a=>.leaf 0 [a])) (.leaf 2 [g a 0])) fun a b=>aA a 1 (.leaf 1 b) (aA a 2 (Ln 1 x0 fun a=>Bn .leq a (.int .i64 20) fun a=>.fin [.val a]) .bad)
theorem agx (x0:AV):CC Tryz.prog tX [x0] (PU x0):=cc Tryz.func327 [0,3] (fun _=>[])
def OX (x0:AV):Prog:=.loop [.int .i64 0] (fun a=>Ln 1 x0 fun b=>Bn .lss (g a 0) b fun b=>.ite b (.op (.ig x0 (g a 0)) fun b=>Bn .lss b (.int .u8 32) fun b=>.gop b false (.mv x0) fun c=>.gop b false (.mv (g a 0)) fun d=>.gop b false (.ig c d) fun c=>.gop b false (.bin 0 .gtr c (.int .u8 126)) fun c=>Pk b (.bool true) c fun b=>.gop b false (.mv x0) fun c=>.gop b false (.mv (g a 0)) fun d=>.gop b false (.ig c d) fun c=>.gop b false (.bin 0 .eql c (.int .u8 34)) fun c=>Pk b (.bool true) c fun b=>.ite b (.fin [.val (.bool false)]) (Bn .add (g a 0) (.int .i64 1) fun a=>.leaf 0 [a])) (.leaf 2 [g a 0])) fun a b=>aA a 1 (.leaf 1 b) (aA a 2 (Ln 1 x0 fun a=>Bn .leq a (.int .i64 20) fun a=>.fin [.val a]) .bad)
theorem afF (x0:AV):CC Tryz.prog tK [x0] (OX x0):=cc Tryz.func329 [0,3] (fun _=>[])
def Ri (x0:AV):Prog:=.op (.box x0) fun a=>Lg 1 a fun b=>.ite b (Lg 0 a fun b=>Cl oC [b] fun b=>Gf b true 2 a fun c=>.gop b true (.call bK [c,.int .i64 0,.int .i64 2147483647]) fun c=>Pk b c (.bool false) fun b=>Gf b true 3 a fun a=>.gop b true (.bin 1 .eql a (.str ⟨#[]⟩)) fun a=>Pk b a (.bool false) fun a=>.fin [.val a]) (Lg 0 a fun b=>Cl oC [b] fun b=>Gf b true 3 a fun c=>.gop b true (.call tX [c]) fun c=>Pk b c (.bool false) fun b=>Gf b true 2 a fun a=>.gop b true (.bin 0 .eql a (.int .i64 0)) fun a=>Pk b a (.bool false) fun a=>.fin [.val a])
theorem aij (x0:AV):CC Tryz.prog CF [x0] (Ri x0):=cc Tryz.func306
def QC (x0:AV):Prog:=.op (.box x0) fun a=>Lg 0 a fun b=>Cl qI [b] fun b=>.op (.una .not b) fun b=>.ite b (.fin [.val (.bool false)]) (Lg 1 a fun b=>.ite b (Lg 2 a fun b=>Cl bP [b,.int .i64 0,.int .i64 2147483647] fun b=>Gf b true 3 a fun a=>.gop b true (.bin 1 .eql a (.str ⟨#[]⟩)) fun a=>Pk b a (.bool false) fun a=>.fin [.val a]) (Lg 2 a fun b=>Bn .eql b (.int .i64 0) fun b=>Gf b true 3 a fun a=>.gop b true (.call tK [a]) fun a=>Pk b a (.bool false) fun a=>.fin [.val a]))
theorem ahH (x0:AV):CC Tryz.prog Cq [x0] (QC x0):=cc Tryz.func310
def Oe (x0:AV):Prog:=.op (.box x0) fun a=>Lg 1 a fun b=>.ite b (Lg 0 a fun a=>Ln 1 a fun a=>Bn .add a (.int .i64 4) fun a=>.fin [.val a]) (Lg 0 a fun b=>Ln 1 b fun b=>Lg 3 a fun a=>Ln 1 a fun a=>Bn .add b a fun a=>.fin [.val a])
theorem aej (x0:AV):CC Tryz.prog AX [x0] (Oe x0):=cc Tryz.func239
def NG (x0:AV):Prog:=.op (.box x0) fun a=>Lg 1 a fun b=>.ite b (Lg 0 a fun a=>Ln 1 a fun a=>Bn .add a (.int .i64 4) fun a=>.fin [.val a]) (Lg 0 a fun b=>Ln 1 b fun b=>Lg 3 a fun a=>Ln 1 a fun a=>Bn .add b a fun a=>.fin [.val a])
theorem adN (x0:AV):CC Tryz.prog Aw [x0] (NG x0):=cc Tryz.func296
end
def nK (c:UInt8):Prop:=97≤(c.toNat:Int)∧(c.toNat:Int)≤122
def rz (s:ByteArray):Prop:=(∀ c∈bys s,nK c)∧1≤(s.size:Int)∧(s.size:Int)≤8
theorem Qg {h:AH} {s:ByteArray} (hs:s.size≤maxLen):aN Tryz.prog oC [.str s] h (.bool (bp (rz s))):=by
 refine reader (aib _) (by simp only[old]) ?_
 unfold Ra
 have hs:s.size≤9223372036854775807:=hs
 have hl:=uY s
 refine aY s.size (fun i vs h1=>vs=[.int .i64 (i:Int)]∧i≤s.size∧h1=h∧bW (bys s) (fun _=>nK) i) ⟨rfl,Nat.zero_le _,rfl,up0⟩ ?_
 rintro i vs h1 _ ⟨rfl,hi,rfl,hu⟩
 simp only[g0]
 (repeat' first|refine vs ?_|(refine br ?_ ?_<;>first|exact bx|intro _)|((with_reducible refine aB bK ?_);refine aQ eY ?_)|(refine sx ?_;intro _ _)|fail)
 ·exact pf fun k=>gY (by assumption) (by unfold nK;omega) k.1
 ·exact pf fun k=>gY (by assumption) (by unfold nK;omega) k.1
 ·exact⟨by omega,rfl,by omega,rfl,upS hu (by assumption) (by unfold nK;omega)⟩
 ·have e:i=(bys s).length:=by omega
  rw[e] at hu
  exact pb (KX (by simp only[inB,decide_eq_true_eq,rz];exact⟨fun k=>⟨dX hu,k⟩,fun k=>k.2⟩))
theorem Qa {h:AH} {s:ByteArray} (hs:s.size≤maxLen):aN Tryz.prog qI [.str s] h (.bool (bp (rz s))):=by
 refine reader (ahC _) (by simp only[old]) ?_
 unfold Qw
 have hs:s.size≤9223372036854775807:=hs
 have hl:=uY s
 refine aY s.size (fun i vs h1=>vs=[.int .i64 (i:Int)]∧i≤s.size∧h1=h∧bW (bys s) (fun _=>nK) i) ⟨rfl,Nat.zero_le _,rfl,up0⟩ ?_
 rintro i vs h1 _ ⟨rfl,hi,rfl,hu⟩
 simp only[g0]
 (repeat' first|refine vs ?_|(refine br ?_ ?_<;>first|exact bx|intro _)|((with_reducible refine aB bP ?_);refine aQ fV ?_)|(refine sx ?_;intro _ _)|fail)
 ·exact pf fun k=>gY (by assumption) (by unfold nK;omega) k.1
 ·exact pf fun k=>gY (by assumption) (by unfold nK;omega) k.1
 ·exact⟨by omega,rfl,by omega,rfl,upS hu (by assumption) (by unfold nK;omega)⟩
 ·have e:i=(bys s).length:=by omega
  rw[e] at hu
  exact pb (KX (by simp only[inB,decide_eq_true_eq,rz];exact⟨fun k=>⟨dX hu,k⟩,fun k=>k.2⟩))
def qX (c:UInt8):Prop:=32≤(c.toNat:Int)∧(c.toNat:Int)≤126∧(c.toNat:Int)≠34
def Ee (s:ByteArray):Prop:=(∀ c∈bys s,qX c)∧(s.size:Int)≤20
theorem Ox {h : AH} {s : ByteArray} (hs : s.size ≤ maxLen) : aN Tryz.prog tX [.str s] h (.bool (bp (Ee s))) := by
  refine reader (agx _) (by simp only [old]) ?_
  unfold PU
  have hs : s.size ≤ 9223372036854775807 := hs
  have hl := uY s
  refine aY s.size (fun i vs h1 => vs = [.int .i64 (i : Int)] ∧ i ≤ s.size ∧ h1 = h ∧ bW (bys s) (fun _ => qX) i) ⟨rfl, Nat.zero_le _, rfl, up0⟩ ?_
  rintro i vs h1 _ ⟨rfl, hi, rfl, hu⟩
  simp only [g0]
  (repeat' first|refine vs ?_|(refine br ?_ ?_<;>first|exact bx|intro _)|((with_reducible refine aB bK ?_);(refine cK eY ?_ ?_ <;> intro hb <;> first|replace hb := dx hb|replace hb := dz hb))|(refine sx ?_;intro _ _)|fail)
  all_goals first
    | exact pf fun k => gY (by assumption) (by unfold qX; omega) k.1
    | exact ⟨by omega, rfl, by omega, rfl, upS hu (by assumption) (by unfold qX; omega)⟩
    | (have e : i = (bys s).length := by omega
       rw [e] at hu
       first|exact pt ⟨dX hu, by omega⟩|exact pf fun k => by have := k.2; omega)
theorem Ol {h : AH} {s : ByteArray} (hs : s.size ≤ maxLen) : aN Tryz.prog tK [.str s] h (.bool (bp (Ee s))) := by
  refine reader (afF _) (by simp only [old]) ?_
  unfold OX
  have hs : s.size ≤ 9223372036854775807 := hs
  have hl := uY s
  refine aY s.size (fun i vs h1 => vs = [.int .i64 (i : Int)] ∧ i ≤ s.size ∧ h1 = h ∧ bW (bys s) (fun _ => qX) i) ⟨rfl, Nat.zero_le _, rfl, up0⟩ ?_
  rintro i vs h1 _ ⟨rfl, hi, rfl, hu⟩
  simp only [g0]
  (repeat' first|refine vs ?_|(refine br ?_ ?_<;>first|exact bx|intro _)|(refine sx ?_;intro _ _)|fail)
  all_goals first
    | exact pf fun k => gY (by assumption) (by unfold qX; omega) k.1
    | exact ⟨by omega, rfl, by omega, rfl, upS hu (by assumption) (by unfold qX; omega)⟩
    | (have e : i = (bys s).length := by omega
       rw [e] at hu
       first|exact pt ⟨dX hu, by omega⟩|exact pf fun k => by have := k.2; omega)
def empty:ByteArray:=⟨#[]⟩
def nE (a:Attr):Prop:=rz a.key∧((a.num=true∧(0≤a.n∧a.n≤2147483647)∧a.text=empty)∨(a.num=false∧a.n=0∧Ee a.text))
theorem ahf {h:AH} {a:Attr} (ok:Cel.ok a):aN Tryz.prog CF [.agg a.cs] h (.bool (bp (nE a))):=by
 refine reader (aij _) (by simp only[old]) ?_
 unfold Ri
 obtain⟨k1,k2,k3⟩:=ok
 have k1:a.key.size≤maxLen:=k1
 have k3:a.text.size≤maxLen:=k3
 (repeat' first|refine vs ?_|(refine br ?_ ?_<;>first|exact bx|intro _)|((with_reducible refine aB oC ?_);(refine aX (Qg k1) ?_ ?_<;>intro hn))|((with_reducible refine aB tX ?_);(refine aX (Ox k3) ?_ ?_<;>intro hp))|((with_reducible refine aB bK ?_);(refine cK eY ?_ ?_<;>intro hb<;>first|replace hb:=dx hb|replace hb:=dz hb))|fail)
 all_goals first
  |(refine pt ?_;unfold nE;simp_all [empty];done)
  |(refine pf ?_;unfold nE;simp_all [empty];done)
  |(refine pf ?_;unfold nE;simp_all [empty];intros;omega)
theorem agR {h:AH} {a:Attr} (ok:Cel.ok a):aN Tryz.prog Cq [.agg a.cs] h (.bool (bp (nE a))):=by
 refine reader (ahH _) (by simp only[old]) ?_
 unfold QC
 obtain⟨k1,k2,k3⟩:=ok
 have k1:a.key.size≤maxLen:=k1
 have k3:a.text.size≤maxLen:=k3
 (repeat' first|refine vs ?_|(refine br ?_ ?_<;>first|exact bx|intro _)|((with_reducible refine aB qI ?_);(refine aX (Qa k1) ?_ ?_<;>intro hn))|((with_reducible refine aB tK ?_);(refine aX (Ol k3) ?_ ?_<;>intro hp))|((with_reducible refine aB bP ?_);(refine cK fV ?_ ?_<;>intro hb<;>first|replace hb:=dx hb|replace hb:=dz hb))|fail)
 all_goals first
  |(refine pt ?_;unfold nE;simp_all [empty];done)
  |(refine pf ?_;unfold nE;simp_all [empty];done)
  |(refine pf ?_;unfold nE;simp_all [empty];intros;omega)
def lU (a:Attr):Int:=if a.num=true then a.key.size+4 else a.key.size+a.text.size
theorem adt {h:AH} {a:Attr} (hs:Sz.sz a≤67108864):aN Tryz.prog AX [.agg a.cs] h (.int .i64 (lU a)):=by
 refine reader (aej _) (by simp only[old]) ?_
 unfold Oe
 have hs:a.key.size+a.text.size≤67108864:=hs
 (repeat' first|refine vs ?_|(refine br ?_ ?_<;>first|exact bx|intro _)|fail)
 all_goals exact pi (by simp[lU, *])
theorem ac6 {h:AH} {a:Attr} (hs:Sz.sz a≤67108864):aN Tryz.prog Aw [.agg a.cs] h (.int .i64 (lU a)):=by
 refine reader (adN _) (by simp only[old]) ?_
 unfold NG
 have hs:a.key.size+a.text.size≤67108864:=hs
 (repeat' first|refine vs ?_|(refine br ?_ ?_<;>first|exact bx|intro _)|fail)
 all_goals exact pi (by simp[lU, *])
end Go.Proofs.YtekfdoknfcedpaaGreat
end
section
set_option linter.unusedSimpArgs false
set_option linter.unusedVariables false
namespace Go.Proofs.YtekfdoknfcedpaaGreat
open Go Go.Ab
section
def PZ (x0:AV):Prog:=Ln 0 x0 fun a=>.loop [.int .i64 0] (fun b=>Bn .lss (g b 0) a fun a=>.ite a (Ix 4 x0 (g b 0) fun a=>Ld 4 a fun a=>.op (.alloc [.str ⟨#[]⟩,.bool false,.int .i64 0,.str ⟨#[]⟩]) fun c=>.op (.st 4 c a) fun _=>Ld 4 c fun a=>Cl CF [a] fun a=>.op (.una .not a) fun a=>.gop a false (.mv (g b 0)) fun d=>.gop a false (.bin 0 .gtr d (.int .i64 0)) fun d=>.gop a false (.mv d) fun d=>.gop d true (.mv x0) fun e=>.gop d true (.mv (g b 0)) fun f=>.gop d true (.bin 0 .sub f (.int .i64 1)) fun f=>.gop d true (.idx 4 e f) fun e=>Gf d true 0 e fun e=>Gf d true 0 c fun c=>.gop d true (.bin 1 .geq e c) fun c=>.gop a false (.pick d c (.bool false)) fun c=>Pk a (.bool true) c fun a=>.ite a (.fin [.val (.bool false)]) (Bn .add (g b 0) (.int .i64 1) fun a=>.leaf 0 [a])) (.leaf 2 [g b 0])) fun a b=>aA a 1 (.leaf 1 b) (aA a 2 (Ln 0 x0 fun a=>Bn .leq a (.int .i64 4) fun a=>.fin [.val a]) .bad)
theorem agB (x0:AV):CC Tryz.prog BZ [x0] (PZ x0):=cc Tryz.func246 [0,5,6,7] (fun r=>if r=4 then[(0,[]),(1,[]),(2,[]),(3,[]),(4,[]),(5,[]),(6,[]),(7,[]),(8,[]),(9,[]),(10,[]),(11,[]),(12,[]),(13,[]),(14,[]),(15,[]),(16,[]),(17,[])] else[])
def O5 (x0:AV):Prog:=.loop [.int .i64 0] (fun a=>Ln 0 x0 fun b=>Bn .lss (g a 0) b fun b=>.ite b (Ix 4 x0 (g a 0) fun b=>Ld 4 b fun b=>Cl Cq [b] fun b=>.op (.una .not b) fun b=>.gop b false (.mv (g a 0)) fun c=>.gop b false (.bin 0 .gtr c (.int .i64 0)) fun c=>.gop b false (.mv c) fun c=>.gop c true (.mv x0) fun d=>.gop c true (.mv (g a 0)) fun e=>.gop c true (.bin 0 .sub e (.int .i64 1)) fun e=>.gop c true (.idx 4 d e) fun d=>Gf c true 0 d fun d=>.gop c true (.mv x0) fun e=>.gop c true (.mv (g a 0)) fun f=>.gop c true (.idx 4 e f) fun e=>Gf c true 0 e fun e=>.gop c true (.bin 1 .geq d e) fun d=>.gop b false (.pick c d (.bool false)) fun c=>Pk b (.bool true) c fun b=>.ite b (.fin [.val (.bool false)]) (Bn .add (g a 0) (.int .i64 1) fun a=>.leaf 0 [a])) (.leaf 2 [g a 0])) fun a b=>aA a 1 (.leaf 1 b) (aA a 2 (Ln 0 x0 fun a=>Bn .leq a (.int .i64 4) fun a=>.fin [.val a]) .bad)
theorem afK (x0:AV):CC Tryz.prog Bq [x0] (O5 x0):=cc Tryz.func253 [0,3] (fun r=>if r=4 then[(0,[]),(1,[]),(2,[]),(3,[]),(4,[]),(5,[]),(6,[]),(7,[]),(8,[]),(9,[]),(10,[]),(11,[]),(12,[]),(13,[]),(14,[]),(15,[]),(16,[]),(17,[]),(18,[]),(19,[]),(20,[]),(21,[]),(22,[]),(23,[])] else[])
def Q8 (x0:AV):Prog:=.op (.box x0) fun a=>Lg 5 a fun a=>Ln 0 a fun b=>.loop [.int .i64 12,.int .i64 0] (fun c=>Bn .lss (g c 1) b fun b=>.ite b (Ix 4 a (g c 1) fun a=>Ld 4 a fun a=>.op (.alloc [.str ⟨#[]⟩,.bool false,.int .i64 0,.str ⟨#[]⟩]) fun b=>.op (.st 4 b a) fun _=>Ld 4 b fun a=>Cl AX [a] fun a=>Bn .add (g c 0) a fun a=>Bn .add (g c 1) (.int .i64 1) fun b=>.leaf 0 [a,b]) (.leaf 2 [g c 0,g c 1])) fun a b=>aA a 1 (.leaf 1 b) (aA a 2 (.fin [.val (g b 0)]) .bad)
theorem ah9 (x0:AV):CC Tryz.prog uh [x0] (Q8 x0):=cc Tryz.func155 [3,7,8,9] (fun _=>[])
def Qu (x0:AV):Prog:=.op (.box x0) fun a=>.loop [.int .i64 12,.int .i64 0] (fun b=>Lg 5 a fun c=>Ln 0 c fun c=>Bn .lss (g b 1) c fun c=>.ite c (Lg 5 a fun a=>Ix 4 a (g b 1) fun a=>Ld 4 a fun a=>Cl Aw [a] fun a=>Bn .add (g b 0) a fun a=>Bn .add (g b 1) (.int .i64 1) fun b=>.leaf 0 [a,b]) (.leaf 2 [g b 0,g b 1])) fun a b=>aA a 1 (.leaf 1 b) (aA a 2 (.fin [.val (g b 0)]) .bad)
theorem ahA (x0:AV):CC Tryz.prog uf [x0] (Qu x0):=cc Tryz.func232 [1,3,4] (fun _=>[])
def Q7 (x0:AV):Prog:=.op (.box x0) fun a=>Lg 0 a fun b=>Cl bK [b,.int .i64 1,.int .i64 999] fun b=>Gf b true 1 a fun c=>.gop b true (.call bK [c,.int .i64 1,.int .i64 999]) fun c=>Pk b c (.bool false) fun b=>Gf b true 3 a fun c=>.gop b true (.call bK [c,.int .i64 0,.int .i64 99999]) fun c=>Pk b c (.bool false) fun b=>Gf b true 2 a fun c=>Gf b true 3 a fun d=>.gop b true (.call bK [c,.int .i64 0,d]) fun c=>Pk b c (.bool false) fun b=>Gf b true 5 a fun c=>.gop b true (.call BZ [c]) fun c=>Pk b c (.bool false) fun b=>.gop b true (.ldn 6 a) fun a=>.gop b true (.call uh [a]) fun a=>.gop b true (.bin 0 .leq a (.int .i64 96)) fun a=>Pk b a (.bool false) fun a=>.fin [.val a]
theorem ah8 (x0:AV):CC Tryz.prog oz [x0] (Q7 x0):=cc Tryz.func164
def Qt (x0:AV):Prog:=.op (.box x0) fun a=>Lg 0 a fun b=>Cl bP [b,.int .i64 1,.int .i64 999] fun b=>Gf b true 1 a fun c=>.gop b true (.call bP [c,.int .i64 1,.int .i64 999]) fun c=>Pk b c (.bool false) fun b=>Gf b true 2 a fun c=>.gop b true (.call bP [c,.int .i64 0,.int .i64 99999]) fun c=>Pk b c (.bool false) fun b=>Gf b true 3 a fun c=>Gf b true 2 a fun d=>.gop b true (.call bP [c,d,.int .i64 99999]) fun c=>Pk b c (.bool false) fun b=>Gf b true 5 a fun c=>.gop b true (.call Bq [c]) fun c=>Pk b c (.bool false) fun b=>.gop b true (.ldn 6 a) fun a=>.gop b true (.call uf [a]) fun a=>.gop b true (.bin 0 .leq a (.int .i64 96)) fun a=>Pk b a (.bool false) fun a=>.fin [.val a]
theorem ahz (x0:AV):CC Tryz.prog om [x0] (Qt x0):=cc Tryz.func178
def PS (x0:AV):Prog:=Ln 0 x0 fun a=>.loop [.int .i64 0,.int .i64 0] (fun b=>Bn .lss (g b 1) a fun a=>.ite a (Ix 6 x0 (g b 1) fun a=>Ld 6 a fun a=>.op (.alloc iT) fun c=>.op (.st 6 c a) fun _=>Ld 6 c fun a=>Cl uh [a] fun a=>Bn .add (g b 0) a fun a=>Bn .add (g b 1) (.int .i64 1) fun b=>.leaf 0 [a,b]) (.leaf 2 [g b 0,g b 1])) fun a b=>aA a 1 (.leaf 1 b) (aA a 2 (.fin [.val (g b 0)]) .bad)
theorem agw (x0:AV):CC Tryz.prog BU [x0] (PS x0):=cc Tryz.func292 [3,6,7,8] (fun _=>[])
def OW (x0:AV):Prog:=.loop [.int .i64 0,.int .i64 0] (fun a=>Ln 0 x0 fun b=>Bn .lss (g a 1) b fun b=>.ite b (Ix 6 x0 (g a 1) fun b=>Ld 6 b fun b=>Cl uf [b] fun b=>Bn .add (g a 0) b fun b=>Bn .add (g a 1) (.int .i64 1) fun a=>.leaf 0 [b,a]) (.leaf 2 [g a 0,g a 1])) fun a b=>aA a 1 (.leaf 1 b) (aA a 2 (.fin [.val (g b 0)]) .bad)
theorem afE (x0:AV):CC Tryz.prog Bl [x0] (OW x0):=cc Tryz.func251 [0,3,4] (fun _=>[])
end
def kge (a b:ByteArray):Bool:=!(Op.bytesLess a.toList b.toList)
def yA (l:List Attr) (i:Nat) (a:Attr):Prop:=nE a∧∀ b,0 < i→l[((i:Int) - 1).toNat]? =some b→kge b.key a.key=false
def Kv (l:List Attr):Prop:=(∀ i a,l[i]? =some a→yA l i a)∧(l.length:Int)≤4
theorem ae9 {h:AH} {l:List Attr} {v:AV} {F:List Nat} (ok:∀ x∈l,Cel.ok x) (r:au h v l F):aN Tryz.prog BZ [v] h (.bool (bp (Kv l))):=by
 refine reader (agB _) (by simp only[old]) ?_
 unfold PZ
 have hsm:=r.small
 refine vs ?_
 refine aY l.length (fun i vs h1=>vs=[.int .i64 (i:Int)]∧i≤l.length∧Ext h h1∧bW l (yA l) i) ⟨rfl,Nat.zero_le _,Ext.refl _,up0⟩ ?_
 rintro i vs h1 _ ⟨rfl,hi,e1,hu⟩
 simp only[g0]
 refine br (fun hlt=>?_) (fun hge=>?_)
 ·obtain⟨x,hx,-,-⟩:=aR (show i < l.length by omega)
  have okx:=ok x (List.mem_of_getElem? hx)
  (repeat' first|refine vs ?_|(refine br ?_ ?_<;>first|exact bx|intro _)|((with_reducible refine aB CF ?_);(refine aX (ahf okx) ?_ ?_<;>intro hn))|((with_reducible refine aC ?_);((first|refine ix ?_|(refine aL ?_;intro _ _));rintro _ _ _ _ _ ⟨rfl,rfl⟩ _))|fail)
  all_goals first
   |(refine pf fun k=>?_;have k:=k.1 i x hx;simp_all [yA,kge];done)
   |(refine⟨by omega,rfl,by omega,aG,upS hu hx ⟨hn,fun b h0 hb=>?_⟩⟩;first|(exfalso;omega)|(simp_all [kge];done))
 ·(repeat' first|refine vs ?_|(refine br ?_ ?_<;>first|exact bx|intro _)|fail)
  all_goals(have e:i=l.length:=(by omega);rw[e] at hu;first|exact pt ⟨iU hu,by omega⟩|exact pf fun k=>by have:=k.2;omega)
theorem aez {h:AH} {l:List Attr} {v:AV} {F:List Nat} (ok:∀ x∈l,Cel.ok x) (r:au h v l F):aN Tryz.prog Bq [v] h (.bool (bp (Kv l))):=by
 refine reader (afK _) (by simp only[old]) ?_
 unfold O5
 have hsm:=r.small
 refine aY l.length (fun i vs h1=>vs=[.int .i64 (i:Int)]∧i≤l.length∧Ext h h1∧bW l (yA l) i) ⟨rfl,Nat.zero_le _,Ext.refl _,up0⟩ ?_
 rintro i vs h1 _ ⟨rfl,hi,e1,hu⟩
 simp only[g0]
 refine vs ?_
 refine br (fun hlt=>?_) (fun hge=>?_)
 ·obtain⟨x,hx,-,-⟩:=aR (show i < l.length by omega)
  have okx:=ok x (List.mem_of_getElem? hx)
  (repeat' first|refine vs ?_|(refine br ?_ ?_<;>first|exact bx|intro _)|((with_reducible refine aB Cq ?_);(refine aX (agR okx) ?_ ?_<;>intro hn))|((with_reducible refine aC ?_);((first|refine ix ?_|(refine aL ?_;intro _ _));rintro _ _ _ _ _ ⟨rfl,rfl⟩ _))|fail)
  all_goals first
   |(refine pf fun k=>?_;have k:=k.1 i x hx;simp_all [yA,kge];done)
   |(refine⟨by omega,rfl,by omega,aG,upS hu hx ⟨hn,fun b h0 hb=>?_⟩⟩;first|(exfalso;omega)|(simp_all [kge];done))
 ·(repeat' first|refine vs ?_|(refine br ?_ ?_<;>first|exact bx|intro _)|fail)
  all_goals(have e:i=l.length:=(by omega);rw[e] at hu;first|exact pt ⟨iU hu,by omega⟩|exact pf fun k=>by have:=k.2;omega)
def cB {α:Type} (f:α→Int):List α→Int
 |[]=>0
 |x::l=>f x+cB f l
theorem DC {α:Type} (f:α→Int):∀ l r:List α,cB f (l++r)=cB f l+cB f r
 |[],r=>by simp[cB]
 |x::l,r=>by simp only[List.cons_append,cB,DC f l];omega
theorem lS {α:Type} (f:α→Int) {xs:List α} {i:Nat} {x:α} (ht:xs.take (i+1)=xs.take i++[x]):cB f (xs.take (i+1))=cB f (xs.take i)+f x:=by rw[ht,DC];simp[cB]
theorem nu {α:Type} [Sz α] {f:α→Int} {a b:Int} (hb:∀ x,0≤f x∧f x≤a+b * (Sz.sz x:Nat)):∀ l:List α,0≤cB f l∧cB f l≤a * l.length+b * (szs l:Nat)
 |[]=>by simp[cB,szs]
 |x::l=>by
  have h1:=hb x;have h2:=nu hb l
  simp only[cB,szs,List.length_cons]
  have e1:a * ((l.length+1:Nat):Int)=a * l.length+a:=by rw[Int.natCast_add,Int.mul_add];simp
  have e2:b * ((Sz.sz x+szs l:Nat):Int)=b * (Sz.sz x:Nat)+b * (szs l:Nat):=by rw[Int.natCast_add,Int.mul_add]
  omega
theorem xA (a:Attr):0≤lU a∧lU a≤4+1 * (Sz.sz a:Nat):=by
 have:Sz.sz a=a.key.size+a.text.size:=rfl
 unfold lU;split<;>omega
def jh (s:Span):Int:=12+cB lU s.attrs
theorem w9 (s:Span):0≤jh s∧jh s≤12+4 * (Sz.sz s:Nat):=by
 have:Sz.sz s=s.attrs.length+szs s.attrs:=rfl
 have:=nu xA s.attrs
 unfold jh;omega
theorem Qf {h:AH} {s:Span} {v:AV} {F:List Nat} (hs:Sz.sz s≤67108864) (r:au h v s.attrs F):aN Tryz.prog uh [.agg (s.cs v)] h (.int .i64 (jh s)):=by
 refine reader (ah9 _) (by simp only[old]) ?_
 unfold Q8
 have hsz:Sz.sz s=s.attrs.length+szs s.attrs:=rfl
 have hsm:=r.small
 refine vs ?_
 refine aY s.attrs.length (fun i vs h1=>vs=[.int .i64 (12+cB lU (s.attrs.take i)),.int .i64 (i:Int)]∧i≤s.attrs.length∧Ext h h1) ⟨rfl,Nat.zero_le _,aG⟩ ?_
 rintro i vs h1 _ ⟨rfl,hi,e1⟩
 simp only[g0,g1]
 refine br (fun hlt=>?_) (fun hge=>?_)
 ·obtain⟨x,hx,-,ht⟩:=aR (show i < s.attrs.length by omega)
  have h2:=xA x
  have h3:=nu xA (s.attrs.take i)
  have h4:=gP s.attrs i
  have h5:=bI (List.mem_of_getElem? hx)
  rw[List.length_take] at h3
  (repeat' first|refine vs ?_|((with_reducible refine aB AX ?_);refine aQ (adt (by omega)) ?_)|((with_reducible refine aC ?_);((refine ix ?_);rintro _ _ _ _ _ ⟨rfl,rfl⟩ _))|fail)
  exact⟨by omega,by rw[lS _ ht,Int.add_assoc],by omega,aG⟩
 ·(repeat' first|refine vs ?_|fail)
  refine pi ?_
  rw[show i=s.attrs.length by omega,List.take_length];rfl
theorem P9 {h:AH} {s:Span} {v:AV} {F:List Nat} (hs:Sz.sz s≤67108864) (r:au h v s.attrs F):aN Tryz.prog uf [.agg (s.cs v)] h (.int .i64 (jh s)):=by
 refine reader (ahA _) (by simp only[old]) ?_
 unfold Qu
 have hsz:Sz.sz s=s.attrs.length+szs s.attrs:=rfl
 have hsm:=r.small
 refine vs ?_
 refine aY s.attrs.length (fun i vs h1=>vs=[.int .i64 (12+cB lU (s.attrs.take i)),.int .i64 (i:Int)]∧i≤s.attrs.length∧Ext (h.push ⟨s.cs v,0,0⟩) h1) ⟨rfl,Nat.zero_le _,aG⟩ ?_
 rintro i vs h1 _ ⟨rfl,hi,e1⟩
 simp only[g0,g1]
 refine vs ?_
 refine br (fun hlt=>?_) (fun hge=>?_)
 ·obtain⟨x,hx,-,ht⟩:=aR (show i < s.attrs.length by omega)
  have h2:=xA x
  have h3:=nu xA (s.attrs.take i)
  have h4:=gP s.attrs i
  have h5:=bI (List.mem_of_getElem? hx)
  rw[List.length_take] at h3
  (repeat' first|refine vs ?_|((with_reducible refine aB Aw ?_);refine aQ (ac6 (by omega)) ?_)|((with_reducible refine aC ?_);((refine ix ?_);rintro _ _ _ _ _ ⟨rfl,rfl⟩ _))|fail)
  exact⟨by omega,by rw[lS _ ht,Int.add_assoc],by omega,aG⟩
 ·(repeat' first|refine vs ?_|fail)
  refine pi ?_
  rw[show i=s.attrs.length by omega,List.take_length];rfl
def pE (s:Span):Prop:=(1≤s.trace∧s.trace≤999)∧(1≤s.id∧s.id≤999)∧(0≤s.start∧s.start≤s.fin∧s.fin≤99999)∧Kv s.attrs∧jh s≤96
theorem Jf {h:AH} {s:Span} {v:AV} {F:List Nat} (ok:Cel.ok s) (hs:Sz.sz s≤67108864) (r:au h v s.attrs F):aN Tryz.prog oz [.agg (s.cs v)] h (.bool (bp (pE s))):=by
 refine reader (ah8 _) (by simp only[old]) ?_
 unfold Q7
 obtain⟨k1,k2,k3,k4,k5⟩:=ok
 (repeat' first|refine vs ?_|(refine br ?_ ?_<;>first|exact bx|intro _)|((with_reducible refine aB bK ?_);(refine cK eY ?_ ?_<;>intro hb<;>first|replace hb:=dx hb|replace hb:=dz hb))|((with_reducible refine aB BZ ?_);(refine aX (ae9 k5 ah) ?_ ?_<;>intro hn))|((with_reducible refine aB uh ?_);refine aQ (Qf hs ah) ?_)|fail)
 all_goals first
  |exact pt ⟨by omega,by omega,by omega,by assumption,by omega⟩
  |exact pf fun k=>by obtain⟨a1,a2,a3,a4,a5⟩:=k;first|omega|contradiction
theorem Jc {h:AH} {s:Span} {v:AV} {F:List Nat} (ok:Cel.ok s) (hs:Sz.sz s≤67108864) (r:au h v s.attrs F):aN Tryz.prog om [.agg (s.cs v)] h (.bool (bp (pE s))):=by
 refine reader (ahz _) (by simp only[old]) ?_
 unfold Qt
 obtain⟨k1,k2,k3,k4,k5⟩:=ok
 (repeat' first|refine vs ?_|(refine br ?_ ?_<;>first|exact bx|intro _)|((with_reducible refine aB bP ?_);(refine cK fV ?_ ?_<;>intro hb<;>first|replace hb:=dx hb|replace hb:=dz hb))|((with_reducible refine aB Bq ?_);(refine aX (aez k5 ah) ?_ ?_<;>intro hn))|((with_reducible refine aB uf ?_);refine aQ (P9 hs ah) ?_)|fail)
 all_goals first
  |exact pt ⟨by omega,by omega,by omega,by assumption,by omega⟩
  |exact pf fun k=>by obtain⟨a1,a2,a3,a4,a5⟩:=k;first|omega|contradiction
theorem ae6 {h:AH} {l:List Span} {v:AV} {F:List Nat} (hs:l.length+szs l≤67108864) (r:au h v l F):aN Tryz.prog BU [v] h (.int .i64 (cB jh l)):=by
 refine reader (agw _) (by simp only[old]) ?_
 unfold PS
 have hsm:=r.small
 refine vs ?_
 refine aY l.length (fun i vs h1=>vs=[.int .i64 (cB jh (l.take i)),.int .i64 (i:Int)]∧i≤l.length∧Ext h h1) ⟨rfl,Nat.zero_le _,aG⟩ ?_
 rintro i vs h1 _ ⟨rfl,hi,e1⟩
 simp only[g0,g1]
 refine br (fun hlt=>?_) (fun hge=>?_)
 ·obtain⟨x,hx,-,ht⟩:=aR (show i < l.length by omega)
  have h2:=w9 x
  have h3:=nu w9 (l.take i)
  have h4:=gP l i
  have h5:=bI (List.mem_of_getElem? hx)
  rw[List.length_take] at h3
  (repeat' first|refine vs ?_|((with_reducible refine aB uh ?_);refine aQ (Qf (by omega) ah) ?_)|((with_reducible refine aC ?_);((refine ix ?_);rintro _ _ _ _ _ ⟨_,rfl,_⟩ _))|fail)
  exact⟨by omega,by rw[lS _ ht],by omega,aG⟩
 ·(repeat' first|refine vs ?_|fail)
  refine pi ?_
  rw[show i=l.length by omega,List.take_length]
theorem aev {h:AH} {l:List Span} {v:AV} {F:List Nat} (hs:l.length+szs l≤67108864) (r:au h v l F):aN Tryz.prog Bl [v] h (.int .i64 (cB jh l)):=by
 refine reader (afE _) (by simp only[old]) ?_
 unfold OW
 have hsm:=r.small
 refine aY l.length (fun i vs h1=>vs=[.int .i64 (cB jh (l.take i)),.int .i64 (i:Int)]∧i≤l.length∧Ext h h1) ⟨rfl,Nat.zero_le _,aG⟩ ?_
 rintro i vs h1 _ ⟨rfl,hi,e1⟩
 simp only[g0,g1]
 refine vs ?_
 refine br (fun hlt=>?_) (fun hge=>?_)
 ·obtain⟨x,hx,-,ht⟩:=aR (show i < l.length by omega)
  have h2:=w9 x
  have h3:=nu w9 (l.take i)
  have h4:=gP l i
  have h5:=bI (List.mem_of_getElem? hx)
  rw[List.length_take] at h3
  (repeat' first|refine vs ?_|((with_reducible refine aB uf ?_);refine aQ (P9 (by omega) ah) ?_)|((with_reducible refine aC ?_);((refine ix ?_);rintro _ _ _ _ _ ⟨_,rfl,_⟩ _))|fail)
  exact⟨by omega,by rw[lS _ ht],by omega,aG⟩
 ·(repeat' first|refine vs ?_|fail)
  refine pi ?_
  rw[show i=l.length by omega,List.take_length]
end Go.Proofs.YtekfdoknfcedpaaGreat
end
section
set_option linter.unusedSimpArgs false
set_option linter.unusedVariables false
namespace Go.Proofs.YtekfdoknfcedpaaGreat
open Go Go.Ab
section
def N8 (x0 x1:AV):Prog:=.op (.box x0) fun a=>.op (.box x1) fun b=>Lg 0 a fun c=>Lg 0 b fun d=>Bn .eql c d fun c=>Gf c true 1 a fun d=>Gf c true 1 b fun e=>.gop c true (.bin 0 .eql d e) fun d=>Pk c d (.bool false) fun c=>Gf c true 2 a fun d=>Gf c true 2 b fun e=>.gop c true (.bin 0 .eql d e) fun d=>Pk c d (.bool false) fun c=>Gf c true 3 a fun d=>Gf c true 3 b fun e=>.gop c true (.bin 0 .eql d e) fun d=>Pk c d (.bool false) fun c=>Gf c true 4 a fun d=>Gf c true 4 b fun e=>.gop c true (.bin 2 .eql d e) fun d=>Pk c d (.bool false) fun c=>Gf c true 5 a fun a=>Gf c true 5 b fun b=>.gop c true (.call zD [a,b]) fun a=>Pk c a (.bool false) fun a=>.fin [.val a]
theorem aed (x0 x1:AV):CC Tryz.prog lM [x0,x1] (N8 x0 x1):=cc Tryz.func274
def Nw (x0 x1:AV):Prog:=.op (.box x0) fun a=>.op (.box x1) fun b=>Lg 0 a fun c=>Lg 0 b fun d=>Bn .neq c d fun c=>Gf c false 1 a fun d=>Gf c false 1 b fun e=>.gop c false (.bin 0 .neq d e) fun d=>Pk c (.bool true) d fun c=>Gf c false 2 a fun d=>Gf c false 2 b fun e=>.gop c false (.bin 0 .neq d e) fun d=>Pk c (.bool true) d fun c=>Gf c false 3 a fun d=>Gf c false 3 b fun e=>.gop c false (.bin 0 .neq d e) fun d=>Pk c (.bool true) d fun c=>Gf c false 4 a fun d=>Gf c false 4 b fun e=>.gop c false (.bin 2 .neq d e) fun d=>Pk c (.bool true) d fun c=>Gf c false 5 a fun d=>.gop c false (.len 0 d) fun d=>Gf c false 5 b fun e=>.gop c false (.len 0 e) fun e=>.gop c false (.bin 0 .neq d e) fun d=>Pk c (.bool true) d fun c=>.ite c (.fin [.val (.bool false)]) (.loop [.int .i64 0] (fun c=>Lg 5 a fun d=>Ln 0 d fun d=>Bn .lss (g c 0) d fun d=>.ite d (Lg 5 a fun a=>Ix 4 a (g c 0) fun a=>Ld 4 a fun a=>Lg 5 b fun b=>Ix 4 b (g c 0) fun b=>Ld 4 b fun b=>.op (.eqs [1,2,0,1] true a b) fun a=>.ite a (.fin [.val (.bool false)]) (Bn .add (g c 0) (.int .i64 1) fun a=>.leaf 0 [a])) (.leaf 2 [g c 0])) fun a b=>aA a 1 (.leaf 1 b) (aA a 2 (.fin [.val (.bool true)]) .bad))
theorem adH (x0 x1:AV):CC Tryz.prog tH [x0,x1] (Nw x0 x1):=cc Tryz.func255 [2,3,5] (fun r=>if r=6 then[(0,[]),(1,[]),(2,[]),(3,[]),(4,[]),(5,[]),(6,[]),(7,[]),(8,[]),(9,[]),(10,[])] else[])
def L6 (x0 x1:AV):Prog:=Ln 0 x0 fun a=>Ln 0 x1 fun b=>Bn .neq a b fun a=>.ite a (.fin [.val (.bool false)]) (Ln 0 x0 fun a=>.loop [.int .i64 0] (fun b=>Bn .lss (g b 0) a fun a=>.ite a (Ix 4 x0 (g b 0) fun a=>Ld 4 a fun a=>Ix 4 x1 (g b 0) fun c=>Ld 4 c fun c=>.op (.eqs [1,2,0,1] true a c) fun a=>.ite a (.fin [.val (.bool false)]) (Bn .add (g b 0) (.int .i64 1) fun a=>.leaf 0 [a])) (.leaf 2 [g b 0])) fun a b=>aA a 1 (.leaf 1 b) (aA a 2 (.fin [.val (.bool true)]) .bad))
theorem Z5 (x0 x1:AV):CC Tryz.prog zD [x0,x1] (L6 x0 x1):=cc Tryz.func320 [0,1,12,13] (fun r=>if r=6 then[(0,[]),(1,[]),(2,[]),(3,[]),(4,[]),(5,[]),(6,[]),(7,[]),(8,[])] else[])
end
theorem aj7 (x y:Attr):mG [1,2,0,1] x.cs y.cs=some (bp (x=y)):=by
 have:mG [1,2,0,1] x.cs y.cs=some (decide (x.key=y.key) && ((x.num == y.num) && (decide (x.n=y.n) && (decide (x.text=y.text) && true)))):=rfl
 rw[this]
 congr 1
 refine KX ?_
 cases x;cases y
 simp[Attr.mk.injEq]
section
variable{P:Program} {h:AH} {Q:Nat→List AV→AH→Prop} {k:AV→Prog}
theorem Vg {x y:Attr} (h1: ¬ x=y→(k (.bool true)).awp P h Q) (h2:x=y→(k (.bool false)).awp P h Q):(Prog.op (.eqs [1,2,0,1] true (.agg x.cs) (.agg y.cs)) k).awp P h Q:=by
 simp only[Prog.awp,AOp.go,aj7,if_true]
 by_cases e:x=y
 ·rw[eD e];exact h2 e
 ·rw[fU e];exact h1 e
end
theorem ZW {h:AH} {xs ys:List Attr} {v0 v1:AV} {F G:List Nat} (r:au h v0 xs F) (r':au h v1 ys G):aN Tryz.prog zD [v0,v1] h (.bool (bp (xs=ys))):=by
 refine reader (Z5 _ _) (by simp only[old]) ?_
 unfold L6
 have hsm:=r.small
 refine bQ r (bQ r' ?_)
 (repeat' first|refine vs ?_|(refine br ?_ ?_<;>first|exact bx|intro _)|fail)
 ·exact pf (by intro k;subst k;omega)
 ·refine aY xs.length (fun i vs h1=>vs=[.int .i64 (i:Int)]∧i≤xs.length∧h1=h∧sO xs ys i) ⟨rfl,Nat.zero_le _,rfl,eu0⟩ ?_
  rintro i vs h1 _ ⟨rfl,hi,rfl,hu⟩
  simp only[g0]
  refine br (fun hlt=>?_) (fun hge=>?_)
  ·obtain⟨x,hx,-,-⟩:=aR (show i < xs.length by omega)
   obtain⟨y,hy,-,-⟩:=aR (show i < ys.length by omega)
   refine vs ?_
   refine bS r hx rfl ?_
   rintro b o _ _ a ⟨rfl,rfl⟩ _
   refine vs ?_
   refine bS r' hy rfl ?_
   rintro b' o' _ _ a' ⟨rfl,rfl⟩ _
   refine vs ?_
   refine Vg (fun e=>?_) (fun e=>?_)
   ·(repeat' first|refine vs ?_|fail)
    exact pf (KV hx hy e)
   ·(repeat' first|refine vs ?_|fail)
    exact⟨by omega,rfl,by omega,rfl,euS hu hx hy e⟩
  ·(repeat' first|refine vs ?_|fail)
   exact pt (KW (by rw[show i=xs.length by omega] at hu;exact hu) (by omega))
theorem Ap {h:AH} {a b:Span} {v v':AV} {F F':List Nat} (r:au h v a.attrs F) (r':au h v' b.attrs F'):aN Tryz.prog lM [.agg (a.cs v),.agg (b.cs v')] h (.bool (bp (a=b))):=by
 refine reader (aed _ _) (by simp only[old]) ?_
 unfold N8
 (repeat' first|refine vs ?_|(refine br ?_ ?_<;>first|exact bx|intro _)|((with_reducible refine aB zD ?_);(refine aX (ZW ah ah) ?_ ?_<;>intro hn))|fail)
 all_goals first
  |(refine pf ?_;rintro rfl;contradiction)
  |(refine pt ?_;cases a;cases b;simp_all;done)
theorem Nq {h:AH} {a b:Span} {v v':AV} {F F':List Nat} (r:au h v a.attrs F) (r':au h v' b.attrs F'):aN Tryz.prog tH [.agg (a.cs v),.agg (b.cs v')] h (.bool (bp (a=b))):=by
 refine reader (adH _ _) (by simp only[old]) ?_
 unfold Nw
 have hsm:=r.small
 (repeat' first|refine vs ?_|(refine br ?_ ?_<;>first|exact bx|intro _)|fail)
 all_goals first
  |(refine pf ?_;rintro rfl;contradiction)
  |skip
 refine aY a.attrs.length (fun i vs h1=>vs=[.int .i64 (i:Int)]∧i≤a.attrs.length∧Ext ((h.push ⟨a.cs v,0,0⟩).push ⟨b.cs v',0,0⟩) h1∧sO a.attrs b.attrs i) ⟨rfl,Nat.zero_le _,aG,eu0⟩ ?_
 rintro i vs h1 _ ⟨rfl,hi,e1,hu⟩
 simp only[g0]
 refine vs ?_
 refine br (fun hlt=>?_) (fun hge=>?_)
 ·obtain⟨x,hx,-,-⟩:=aR (show i < a.attrs.length by omega)
  obtain⟨y,hy,-,-⟩:=aR (show i < b.attrs.length by omega)
  (repeat' first|refine vs ?_|((with_reducible refine aC ?_);((refine ix ?_);rintro _ _ _ _ _ ⟨rfl,rfl⟩ _))|fail)
  refine Vg (fun e=>?_) (fun e=>?_)
  ·(repeat' first|refine vs ?_|fail)
   refine pf ?_
   rintro rfl
   exact KV hx hy e rfl
  ·(repeat' first|refine vs ?_|fail)
   exact⟨by omega,rfl,by omega,aG,euS hu hx hy e⟩
 ·(repeat' first|refine vs ?_|fail)
  have e:a.attrs=b.attrs:=KW (by rw[show i=a.attrs.length by omega] at hu;exact hu) (by omega)
  refine pt ?_
  cases a;cases b;simp_all
end Go.Proofs.YtekfdoknfcedpaaGreat
end
section
set_option linter.unusedSimpArgs false
set_option linter.unusedVariables false
set_option maxHeartbeats 1000000
namespace Go.Proofs.YtekfdoknfcedpaaGreat
open Go Go.Ab
section
def Rv (x0:AV):Prog:=.op (.box x0) fun a=>.op (.alloc jL) fun b=>.op (.alloc jL) fun c=>Lg 0 a fun d=>Sg 0 c d fun _=>Lg 1 a fun d=>Sg 1 c d fun _=>Lg 2 a fun d=>Sg 2 c d fun _=>Lg 3 a fun d=>Sg 3 c d fun _=>Lg 4 a fun a=>Cl wN [a] fun a=>Sg 4 c a fun _=>Ld 5 c fun a=>.op (.st 5 b a) fun _=>.fin [.cn 5 b]
theorem aiG (x0:AV):CC Tryz.prog qJ [x0] (Rv x0):=cc Tryz.func111
def Rx (x0 x1:AV):Prog:=.op (.box x0) fun a=>.op (.box x1) fun b=>Lg 0 a fun c=>Lg 0 b fun d=>Bn .neq c d fun c=>.ite c (.fin [.val (.bool false)]) (Lg 1 a fun c=>Lg 1 b fun d=>Bn .neq c d fun c=>.ite c (.fin [.val (.bool false)]) (Lg 2 a fun c=>Lg 2 b fun d=>.op (.bin 1 .neq c d) fun c=>.ite c (.fin [.val (.bool false)]) (Lg 3 a fun c=>Lg 3 b fun d=>.op (.bin 1 .neq c d) fun c=>.ite c (.fin [.val (.bool false)]) (Lg 4 a fun a=>Lg 4 b fun b=>Cl wP [a,b] fun a=>.op (.una .not a) fun a=>.ite a (.fin [.val (.bool false)]) (.fin [.val (.bool true)])))))
theorem aiI (x0 x1:AV):CC Tryz.prog uq [x0,x1] (Rx x0 x1):=cc Tryz.func135
def Rw (x0 x1:AV):Prog:=.op (.box x0) fun a=>Lg 2 a fun b=>Ln 1 b fun b=>Bn .sub x1 b fun b=>Bn .lss b (.int .i64 0) fun c=>.ite c (.fin [.val (.int .i64 (-1))]) (Lg 3 a fun c=>Ln 1 c fun c=>Bn .sub b c fun b=>Bn .lss b (.int .i64 0) fun c=>.ite c (.fin [.val (.int .i64 (-1))]) (Lg 4 a fun a=>Cl wO [a,b] fun a=>Bn .lss a (.int .i64 0) fun b=>.ite b (.fin [.val (.int .i64 (-1))]) (.fin [.val a])))
theorem aiH (x0 x1:AV):CC Tryz.prog uo [x0,x1] (Rw x0 x1):=cc Tryz.func85
def ahi (x0:AV):Prog:=Ln 0 x0 fun a=>.op (.eX 5 72 jL a a) fun a=>.loop [.int .i64 0] (fun b=>Ln 0 x0 fun c=>Bn .lss (g b 0) c fun c=>.ite c (Ix 5 x0 (g b 0) fun c=>Ld 5 c fun c=>Cl qJ [c] fun c=>Ix 5 a (g b 0) fun a=>.op (.st 5 a c) fun _=>Bn .add (g b 0) (.int .i64 1) fun a=>.leaf 0 [a]) (.leaf 2 [g b 0])) fun b c=>aA b 1 (.leaf 1 c) (aA b 2 (.fin [.val a]) .bad)
theorem ahK (x0:AV):CC Tryz.prog wN [x0] (ahi x0):=cc Tryz.func190 [0,3,4] (fun _=>[])
def ahk (x0 x1:AV):Prog:=Ln 0 x0 fun a=>Ln 0 x1 fun b=>Bn .neq a b fun a=>.ite a (.fin [.val (.bool false)]) (.loop [.int .i64 0] (fun a=>Ln 0 x0 fun b=>Bn .lss (g a 0) b fun b=>.ite b (Ix 5 x0 (g a 0) fun b=>Ld 5 b fun b=>Ix 5 x1 (g a 0) fun c=>Ld 5 c fun c=>Cl uq [b,c] fun b=>.op (.una .not b) fun b=>.ite b (.fin [.val (.bool false)]) (Bn .add (g a 0) (.int .i64 1) fun a=>.leaf 0 [a])) (.leaf 2 [g a 0])) fun a b=>aA a 1 (.leaf 1 b) (aA a 2 (.fin [.val (.bool true)]) .bad))
theorem ahY (x0 x1:AV):CC Tryz.prog wP [x0,x1] (ahk x0 x1):=cc Tryz.func224 [0,1,5] (fun r=>if r=6 then[(0,[]),(1,[]),(2,[]),(3,[]),(4,[]),(5,[]),(6,[]),(7,[]),(8,[]),(9,[])] else[])
def ahj (x0 x1:AV):Prog:=Ln 0 x0 fun a=>Bn .sub x1 a fun a=>Bn .lss a (.int .i64 0) fun b=>.ite b (.fin [.val (.int .i64 (-1))]) (.loop [a,.int .i64 0] (fun a=>Ln 0 x0 fun b=>Bn .lss (g a 1) b fun b=>.ite b (Ix 5 x0 (g a 1) fun b=>Ld 5 b fun b=>Cl uo [b,g a 0] fun b=>Bn .lss b (.int .i64 0) fun c=>.ite c (.fin [.val (.int .i64 (-1))]) (Bn .add (g a 1) (.int .i64 1) fun a=>.leaf 0 [b,a])) (.leaf 2 [g a 0,g a 1])) fun a b=>aA a 1 (.leaf 1 b) (aA a 2 (.fin [.val (g b 0)]) .bad))
theorem ahR (x0 x1:AV):CC Tryz.prog wO [x0,x1] (ahj x0 x1):=cc Tryz.func167 [0,1,5] (fun _=>[])
end
theorem alP {x y:Pol} (h:y∈x.l):SizeOf.sizeOf y < SizeOf.sizeOf x:=by
 cases x with
 |mk k n s t l=>
  have:=List.sizeOf_lt_of_mem (show y∈l from h)
  simp only[Pol.mk.sizeOf_spec];omega
theorem iB {p:Pol→Prop} (step:∀ x,(∀ y∈x.l,p y)→p x):∀ x,p x:=fun x=>
 step x fun y hy=>iB step y
termination_by x=>SizeOf.sizeOf x
decreasing_by exact alP hy
theorem toPols {xs:List Pol} (hc:∀ x∈xs,dA Pol Tryz.prog qJ x) (hs:xs.length+szs xs≤1048576):dZ Tryz.prog wN xs:=by
 intro v F h r
 refine ahK _ (toSx_spec rfl rfl rfl hc r ?_)
 omega
theorem Rl (x:Pol):Sz.sz x≤1048576→dA Pol Tryz.prog qJ x:=by
 refine iB (p:=fun x=>Sz.sz x≤1048576→dA Pol Tryz.prog qJ x) ?_ x
 intro x ih hs cs F h r
 rw[Pol.nJ] at hs
 rw[Pol.bX] at r
 obtain⟨v0,rfl,r0⟩:=r
 have hc:=toPols (xs:=x.l) (fun y hy=>ih y hy (by have:=bI hy;omega)) (by omega)
 refine aiG _ ?_
 unfold Rv
 have Qb:=hc
 (repeat' first|refine vs ?_|((with_reducible refine aB wN ?_);(refine aT (Qb _ _ _ ah) ?_;rintro _ _ ⟨e_,_,_,_⟩;have n_:=e_.1;(try simp only[aO,aV] at n_)))|fail)
 exact⟨rfl,_,rfl,aG,_,_,rfl,Pol.bX.2 ⟨_,rfl,ah⟩,bJ⟩
theorem Qb (xs:List Pol) (hs:xs.length+szs xs≤1048576):dZ Tryz.prog wN xs:=toPols (fun x hx=>Rl x (by have:=bI hx;omega)) hs
theorem Vx {xs:List Pol} (hc:∀ x∈xs,EqX Pol Tryz.prog uq x) (v v':AV) (F F':List Nat) (h:AH) (r:au h v xs F) (r':au h v' xs F'):aN Tryz.prog wP [v,v'] h (.bool true):=
 reader (ahY _ _) (by simp only[old]) (Ti rfl hc r r')
theorem Rn:EqC Pol Tryz.prog uq:=by
 refine iB ?_
 intro x ih cs cs' F F' h r r'
 rw[Pol.bX] at r r'
 obtain⟨v0,rfl,r0⟩:=r
 obtain⟨u0,rfl,q0⟩:=r'
 have Qd:=Vx ih
 refine reader (aiI _ _) (by simp only[old]) ?_
 unfold Rx
 (repeat' first|refine vs ?_|((with_reducible refine aB wP ?_);refine aQ (Qd _ _ _ _ _ ah ah) ?_)|fail)
 exact pb rfl
theorem Qd:EqS Pol Tryz.prog wP:=fun xs v v' F F' h r r'=>Vx (fun x _=>Rn x) v v' F F' h r r'
theorem Vm {xs:List Pol} (hc:∀ x∈xs,SzX Pol Tryz.prog uo x) (ok:∀ x∈xs,Cel.ok x) (v:AV) (F:List Nat) (b:Int) (h:AH) (r:au h v xs F) (h0:0≤b) (h1:b≤1048576):aN Tryz.prog wO [v,.int .i64 b] h (.int .i64 (szr b (xs.length+szs xs))):=
 reader (ahR _ _) (by simp only[old]) (SN rfl hc ok r h0 h1)
theorem Rm:SzC Pol Tryz.prog uo:=by
 refine iB ?_
 intro x ih ok cs F b h r h0 h1
 have hS:=Pol.nJ x
 rw[Pol.bX] at r
 obtain⟨v0,rfl,r0⟩:=r
 have okl:∀ y∈x.l,Cel.ok y:=by
  cases x with
  |mk k n s t l=>exact Pol.Ef.1 ok.2.2.2.2
 have ok1:x.key.size≤9223372036854775807:=by cases x with
  |mk k n s t l=>exact ok.2.2.1
 have ok2:x.text.size≤9223372036854775807:=by cases x with
  |mk k n s t l=>exact ok.2.2.2.1
 have Qc:=Vm ih okl
 refine reader (aiH _ _) (by simp only[old]) ?_
 unfold Rw
 (repeat' first|refine vs ?_|(refine br ?_ ?_<;>first|exact bo|intro _)|((with_reducible refine aB wO ?_);(refine fP (Qc _ _ _ _ ah aP aP) (fun _=>?_) (fun _=>?_)))|fail)
 all_goals(refine pi ?_;unfold szr;split<;>omega)
theorem Qc:SzL Pol Tryz.prog wO:=fun xs ok v F b h r h0 h1=>Vm (fun x _=>Rm x) ok v F b h r h0 h1
end Go.Proofs.YtekfdoknfcedpaaGreat
end
section
set_option linter.unusedSimpArgs false
set_option linter.unusedVariables false
namespace Go.Proofs.YtekfdoknfcedpaaGreat
open Go Go.Ab
section
def PY (x0:AV):Prog:=.op (.box x0) fun a=>Lg 3 a fun a=>Cl BU [a] fun a=>.fin [.val a]
theorem agA (x0:AV):CC Tryz.prog tY [x0] (PY x0):=cc Tryz.func222
def O4 (x0:AV):Prog:=.op (.box x0) fun a=>Lg 3 a fun a=>Cl Bl [a] fun a=>.fin [.val a]
theorem afJ (x0:AV):CC Tryz.prog tL [x0] (O4 x0):=cc Tryz.func176
def PO (x0 x1:AV):Prog:=.op (.box x1) fun a=>.op (.jC Ih [a]) fun a=>Cl zu [x0,a] fun a=>.fin [.val a]
theorem agv (x0 x1:AV):CC Tryz.prog tV [x0,x1] (PO x0 x1):=cc Tryz.func213
def OV (x0 x1:AV):Prog:=.loop [.int .i64 0] (fun a=>Ln 0 x0 fun b=>Bn .lss (g a 0) b fun b=>.ite b (Ix 4 x0 (g a 0) fun b=>Lg 0 b fun b=>Bn .eql b x1 fun b=>.ite b (.fin [.val (g a 0)]) (Bn .add (g a 0) (.int .i64 1) fun a=>.leaf 0 [a])) (.leaf 2 [g a 0])) fun a b=>aA a 1 (.leaf 1 b) (aA a 2 (.fin [.val (.int .i64 (-1))]) .bad)
theorem afD (x0 x1:AV):CC Tryz.prog wI [x0,x1] (OV x0 x1):=cc Tryz.func256 [0,1,5] (fun _=>[])
def Nh (x0 x1:AV):Prog:=.op (.box x0) fun a=>Lg 0 a fun a=>.op (.ld1 x1) fun b=>Bn .eql a b fun a=>.fin [.val a]
theorem acU (x0 x1:AV):CC Tryz.prog Ih [x0,x1] (Nh x0 x1):=cc Tryz.func279
def Zv (x0 x1:AV):Prog:=Ln 0 x0 fun a=>.loop [.int .i64 0] (fun b=>Bn .lss (g b 0) a fun a=>.ite a (Ix 4 x0 (g b 0) fun a=>Ld 4 a fun a=>.op (.fE x1 [a]) fun a=>.ite a (.fin [.val (g b 0)]) (Bn .add (g b 0) (.int .i64 1) fun a=>.leaf 0 [a])) (.leaf 2 [g b 0])) fun a b=>aA a 1 (.leaf 1 b) (aA a 2 (.fin [.val (.int .i64 (-1))]) .bad)
theorem Zx (x0 x1:AV):CC Tryz.prog zu [x0,x1] (Zv x0 x1):=cc Tryz.func278 [0,1,7,8] (fun _=>[])
def Rb (x0:AV):Prog:=.op (.box x0) fun a=>Lg 0 a fun b=>Bn .geq b (.int .i64 1) fun b=>.gop b true (.fad 1 a) fun a=>.gop b true (.ldn 6 a) fun a=>.gop b true (.call oz [a]) fun a=>Pk b a (.bool false) fun a=>.fin [.val a]
theorem aic (x0:AV):CC Tryz.prog uj [x0] (Rb x0):=cc Tryz.func272
def Qy (x0:AV):Prog:=.op (.box x0) fun a=>Lg 0 a fun b=>Bn .geq b (.int .i64 1) fun b=>.gop b true (.fad 1 a) fun a=>.gop b true (.ldn 6 a) fun a=>.gop b true (.call om [a]) fun a=>Pk b a (.bool false) fun a=>.fin [.val a]
theorem ahD (x0:AV):CC Tryz.prog oq [x0] (Qy x0):=cc Tryz.func104
def N9 (x0 x1:AV):Prog:=.op (.box x0) fun a=>.op (.box x1) fun b=>Lg 0 a fun c=>Lg 0 b fun d=>Bn .eql c d fun c=>.gop c true (.fad 1 a) fun a=>.gop c true (.ldn 6 a) fun a=>.gop c true (.fad 1 b) fun b=>.gop c true (.ldn 6 b) fun b=>.gop c true (.call lM [a,b]) fun a=>Pk c a (.bool false) fun a=>.fin [.val a]
theorem aee (x0 x1:AV):CC Tryz.prog AQ [x0,x1] (N9 x0 x1):=cc Tryz.func319
end
theorem Oz {h:AH} {t:Trail} {v:AV} {F:List Nat} (hs:Sz.sz t≤67108864) (r:au h v t.spans F):aN Tryz.prog tY [.agg (t.cs v)] h (.int .i64 (cB jh t.spans)):=by
 refine reader (agA _) (by simp only[old]) ?_
 unfold PY
 (repeat' first|refine vs ?_|((with_reducible refine aB BU ?_);refine aQ (ae6 hs ah) ?_)|fail)
 exact pi rfl
theorem Om {h:AH} {t:Trail} {v:AV} {F:List Nat} (hs:Sz.sz t≤67108864) (r:au h v t.spans F):aN Tryz.prog tL [.agg (t.cs v)] h (.int .i64 (cB jh t.spans)):=by
 refine reader (afJ _) (by simp only[old]) ?_
 unfold O4
 (repeat' first|refine vs ?_|((with_reducible refine aB Bl ?_);refine aQ (aev hs ah) ?_)|fail)
 exact pi rfl
def isId (k:Int) (t:Trail):Bool:=decide (t.id=k)
theorem aiU {h:AH} {b:Nat} {k:Int} (a:At h b 0 [.int .i64 k]):Looks Trail Tryz.prog h Ih [.ptr b 0] (isId k):=by
 rintro x cs F ⟨v,rfl,r⟩
 refine reader (acU _ _) (by simp only[old]) ?_
 unfold Nh
 (repeat' first|refine vs ?_|(refine br ?_ ?_<;>first|exact bx|intro _)|fail)
 all_goals(refine pb ?_;simp[isId, *])
theorem Zu {h:AH} {xs:List Trail} {x0:AV} {F:List Nat} {f:FuncId} {caps:List AV} {p:Trail→Bool} (r:au h x0 xs F) (hf:Looks Trail Tryz.prog h f caps p):
  aN Tryz.prog zu [x0,.fn f caps] h (.int .i64 (idx p xs)):=
 reader (Zx _ _) (by simp only[old]) (Dk (w:=4) rfl r hf)
theorem Ow {h:AH} {xs:List Trail} {x0:AV} {F:List Nat} {k:Int} (r:au h x0 xs F):aN Tryz.prog tV [x0,.int .i64 k] h (.int .i64 (idx (isId k) xs)):=by
 refine reader (agv _ _) (by simp only[old]) ?_
 unfold PO
 (repeat' first|refine vs ?_|((with_reducible refine aB zu ?_);refine aQ (Zu ah (aiU iF)) ?_)|fail)
 exact pi rfl
theorem Oj {h:AH} {xs:List Trail} {x0:AV} {F:List Nat} {k:Int} (r:au h x0 xs F):aN Tryz.prog wI [x0,.int .i64 k] h (.int .i64 (idx (isId k) xs)):=by
 refine reader (afD _ _) (by simp only[old]) ?_
 unfold OV
 have hsm:=r.small
 refine aY xs.length (fun i vs h1=>vs=[.int .i64 (i:Int)]∧i≤xs.length∧h1=h∧bW xs (fun _ t=>isId k t=false) i) ⟨rfl,Nat.zero_le _,rfl,up0⟩ ?_
 rintro i vs h1 _ ⟨rfl,hi,rfl,hu⟩
 simp only[g0]
 refine vs ?_
 refine br (fun hlt=>?_) (fun hge=>?_)
 ·obtain⟨x,hx,-,-⟩:=aR (show i < xs.length by omega)
  (repeat' first|refine vs ?_|(refine br ?_ ?_<;>first|exact bx|intro _)|((with_reducible refine aC ?_);((refine ix ?_);rintro _ _ _ _ _ ⟨_,rfl,_⟩ _))|fail)
  ·rename_i he
   exact pi (rA hx (by simp[isId,he]) fun j y hj hy=>hu j y hj hy).symm
  ·rename_i he
   exact⟨by omega,rfl,by omega,rfl,upS hu hx (by simp[isId,he])⟩
 ·(repeat' first|refine vs ?_|fail)
  exact pi (yE fun j y hj hy=>hu j y (by omega) hy).symm
def jq (x:Itm):Prop:=1≤x.stamp∧pE x.s
theorem Qh {h:AH} {x:Itm} {v:AV} {F:List Nat} (ok:Cel.ok x.s) (hs:Sz.sz x≤67108864) (r:au h v x.s.attrs F):aN Tryz.prog uj [.agg (x.cs v)] h (.bool (bp (jq x))):=by
 refine reader (aic _) (by simp only[old]) ?_
 unfold Rb
 (repeat' first|refine vs ?_|(refine br ?_ ?_<;>first|exact bx|intro _)|((with_reducible refine aB oz ?_);(refine aX (Jf ok hs ah) ?_ ?_<;>intro hn))|fail)
 all_goals first
  |exact pt ⟨by omega,by assumption⟩
  |exact pf fun k=>by obtain⟨a1,a2⟩:=k;first|omega|contradiction
theorem Jd {h:AH} {x:Itm} {v:AV} {F:List Nat} (ok:Cel.ok x.s) (hs:Sz.sz x≤67108864) (r:au h v x.s.attrs F):aN Tryz.prog oq [.agg (x.cs v)] h (.bool (bp (jq x))):=by
 refine reader (ahD _) (by simp only[old]) ?_
 unfold Qy
 (repeat' first|refine vs ?_|(refine br ?_ ?_<;>first|exact bx|intro _)|((with_reducible refine aB om ?_);(refine aX (Jc ok hs ah) ?_ ?_<;>intro hn))|fail)
 all_goals first
  |exact pt ⟨by omega,by assumption⟩
  |exact pf fun k=>by obtain⟨a1,a2⟩:=k;first|omega|contradiction
theorem adq {h:AH} {a b:Itm} {v v':AV} {F F':List Nat} (r:au h v a.s.attrs F) (r':au h v' b.s.attrs F'):aN Tryz.prog AQ [.agg (a.cs v),.agg (b.cs v')] h (.bool (bp (a=b))):=by
 refine reader (aee _ _) (by simp only[old]) ?_
 unfold N9
 (repeat' first|refine vs ?_|(refine br ?_ ?_<;>first|exact bx|intro _)|((with_reducible refine aB lM ?_);(refine aX (Ap (a:=a.s) (b:=b.s) ah ah) ?_ ?_<;>intro hn))|fail)
 all_goals first
  |(refine pf ?_;rintro rfl;contradiction)
  |(refine pt ?_;cases a;cases b;simp_all;done)
end Go.Proofs.YtekfdoknfcedpaaGreat
end
section
set_option linter.unusedSimpArgs false
set_option linter.unusedVariables false
set_option maxHeartbeats 1000000
namespace Go.Proofs.YtekfdoknfcedpaaGreat
open Go Go.Ab
section
def Rf (x0:AV):Prog:=.op (.box x0) fun a=>Lg 0 a fun b=>Cl bK [b,.int .i64 1,.int .i64 4] fun b=>.op (.una .not b) fun b=>Gf b false 17 a fun c=>.gop b false (.bin 0 .lss c (.int .i64 0)) fun c=>Pk b (.bool true) c fun b=>Gf b false 13 a fun c=>Gf b false 14 a fun d=>Gf b false 15 a fun e=>Gf b false 16 a fun f=>.gop b false (.mnx true [c,d,e,f]) fun c=>.gop b false (.bin 0 .lss c (.int .i64 0)) fun c=>Pk b (.bool true) c fun b=>.ite b (.fin [.val (.bool false)]) (Lg 0 a fun b=>Bn .eql b (.int .i64 1) fun b=>Gf b true 18 a fun c=>.gop b true (.bin 0 .neq c (.int .i64 (-1))) fun c=>Pk b c (.bool false) fun b=>.scope (.ite b (Lg 10 a fun a=>Cl bK [a,.int .i64 1,.int .i64 5] fun a=>.op (.una .not a) fun a=>.ite a (.fin [.val (.bool false)]) (.leaf 0 [])) (Lg 10 a fun a=>Bn .neq a (.int .i64 0) fun a=>.ite a (.fin [.val (.bool false)]) (.leaf 0 []))) (fun _=>Lg 18 a fun b=>.op (.bin 0 .eql b (.int .i64 (-1))) fun b=>Gf b false 18 a fun c=>Gf b false 17 a fun d=>.gop b false (.bin 0 .geq c d) fun c=>Pk b (.bool true) c fun b=>Gf b true 19 a fun c=>.gop b true (.bin 0 .eql c (.int .i64 (-1))) fun c=>.gop b true (.mv c) fun c=>Gf c false 18 a fun d=>.gop c false (.bin 0 .neq d (.int .i64 (-1))) fun d=>.gop c false (.mv d) fun d=>Gf d true 19 a fun e=>Gf d true 18 a fun a=>.gop d true (.bin 0 .geq e a) fun a=>.gop c false (.pick d a (.bool false)) fun a=>.gop b true (.pick c (.bool true) a) fun a=>Pk b a (.bool false) fun a=>.fin [.val a]) fun a b=>aA a 1 (.leaf 1 b) .bad)
theorem aif (x0:AV):CC Tryz.prog Cz [x0] (Rf x0):=cc Tryz.func203 [1] (fun _=>[])
def QA (x0:AV):Prog:=.op (.box x0) fun a=>Lg 0 a fun b=>Cl bP [b,.int .i64 1,.int .i64 4] fun b=>.op (.una .not b) fun b=>Gf b false 17 a fun c=>.gop b false (.bin 0 .lss c (.int .i64 0)) fun c=>Pk b (.bool true) c fun b=>Gf b false 13 a fun c=>.gop b false (.bin 0 .lss c (.int .i64 0)) fun c=>Pk b (.bool true) c fun b=>Gf b false 14 a fun c=>.gop b false (.bin 0 .lss c (.int .i64 0)) fun c=>Pk b (.bool true) c fun b=>Gf b false 15 a fun c=>.gop b false (.bin 0 .lss c (.int .i64 0)) fun c=>Pk b (.bool true) c fun b=>Gf b false 16 a fun c=>.gop b false (.bin 0 .lss c (.int .i64 0)) fun c=>Pk b (.bool true) c fun b=>.ite b (.fin [.val (.bool false)]) (Lg 18 a fun b=>.op (.bin 0 .neq b (.int .i64 (-1))) fun b=>Gf b true 18 a fun c=>Gf b true 17 a fun d=>.gop b true (.bin 0 .lss c d) fun c=>Pk b c (.bool false) fun b=>Gf b false 19 a fun c=>.gop b false (.bin 0 .neq c (.int .i64 (-1))) fun c=>.gop b false (.mv c) fun c=>Gf c true 18 a fun d=>.gop c true (.bin 0 .eql d (.int .i64 (-1))) fun d=>.gop c true (.mv d) fun d=>Gf d false 19 a fun e=>Gf d false 18 a fun f=>.gop d false (.bin 0 .lss e f) fun e=>.gop c true (.pick d (.bool true) e) fun d=>.gop b false (.pick c d (.bool false)) fun c=>Pk b (.bool true) c fun b=>.ite b (.fin [.val (.bool false)]) (Lg 0 a fun b=>Bn .eql b (.int .i64 1) fun b=>Gf b true 18 a fun c=>.gop b true (.bin 0 .neq c (.int .i64 (-1))) fun c=>Pk b c (.bool false) fun b=>.ite b (Lg 10 a fun a=>Cl bP [a,.int .i64 1,.int .i64 5] fun a=>.fin [.val a]) (Lg 10 a fun a=>Bn .eql a (.int .i64 0) fun a=>.fin [.val a])))
theorem ahF (x0:AV):CC Tryz.prog Cn [x0] (QA x0):=cc Tryz.func105
def Nk (x0:AV):Prog:=.op (.box x0) fun a=>Lg 0 a fun b=>Bn .eql b (.int .i64 2) fun b=>Gf b true 1 a fun a=>.gop b true (.bin 0 .eql a (.int .i64 2)) fun a=>Pk b a (.bool false) fun a=>.fin [.val a]
theorem acX (x0:AV):CC Tryz.prog wD [x0] (Nk x0):=cc Tryz.func207
def MO (x0:AV):Prog:=.op (.box x0) fun a=>Lg 0 a fun b=>Bn .eql b (.int .i64 2) fun b=>Gf b true 1 a fun a=>.gop b true (.bin 0 .eql a (.int .i64 2)) fun a=>Pk b a (.bool false) fun a=>.fin [.val a]
theorem ab8 (x0:AV):CC Tryz.prog wo [x0] (MO x0):=cc Tryz.func183
end
def kU (d:bN):Prop:=(1≤d.op∧d.op≤4)∧0≤d.inv∧0≤d.took∧0≤d.n∧0≤d.forgot∧0≤d.now∧((d.op=1∧d.lin≠-1∧1≤d.code∧d.code≤5)∨(¬ (d.op=1∧d.lin≠-1)∧d.code=0))∧(d.lin= -1∨d.inv≤d.lin)∧(d.res= -1∨(d.lin≠-1∧d.lin≤d.res))
theorem alE {P:Program} {h:AH} {Q:Nat→List AV→AH→Prop} {k:AV→Prog} {a b c d:Int} (hk:(k (.int .i64 (min (min (min a b) c) d))).awp P h Q):(Prog.op (.mnx true [.int .i64 a,.int .i64 b,.int .i64 c,.int .i64 d]) k).awp P h Q:=by
 simp only[Prog.awp,AOp.go,qo,l6,if_true]
 have e:∀ x y:Int,(if y < x then y else x)=min x y:=fun x y=>by split<;>omega
 simp only[e]
 exact hk
theorem ahd {h:AH} {d:bN} {v:AV}:aN Tryz.prog Cz [.agg (d.cs v)] h (.bool (bp (kU d))):=by
 refine reader (aif _) (by simp only[old]) ?_
 unfold Rf
 (repeat' first|refine vs ?_|(refine br ?_ ?_<;>first|exact bx|intro _)|((with_reducible refine aB bK ?_);(refine cK eY ?_ ?_<;>intro hb<;>first|replace hb:=dx hb|replace hb:=dz hb))|fail)
 all_goals first
  |(refine pf ?_;unfold kU;omega)
  |skip
 refine alE ?_
 (repeat' first|refine vs ?_|(refine br ?_ ?_<;>first|exact bo|intro _)|((with_reducible refine aB bK ?_);(refine cK eY ?_ ?_<;>intro hb<;>first|replace hb:=dx hb|replace hb:=dz hb))|fail)
 all_goals first
  |(refine pt ?_;unfold kU;omega)
  |(refine pf ?_;unfold kU;omega)
theorem agP {h:AH} {d:bN} {v:AV}:aN Tryz.prog Cn [.agg (d.cs v)] h (.bool (bp (kU d))):=by
 refine reader (ahF _) (by simp only[old]) ?_
 unfold QA
 (repeat' first|refine vs ?_|(refine br ?_ ?_<;>first|exact bo|intro _)|((with_reducible refine aB bP ?_);(refine cK fV ?_ ?_<;>intro hb<;>first|replace hb:=dx hb|replace hb:=dz hb))|fail)
 all_goals first
  |(refine pt ?_;unfold kU;omega)
  |(refine pf ?_;unfold kU;omega)
theorem MH {h:AH} {t:Task} {v v':AV}:aN Tryz.prog wD [.agg (t.cs v v')] h (.bool (bp (t.op=2∧t.pc=2))):=by
 refine reader (acX _) (by simp only[old]) ?_
 unfold Nk
 (repeat' first|refine vs ?_|(refine br ?_ ?_<;>first|exact bx|intro _)|fail)
 all_goals first
  |exact pt ⟨by omega,by omega⟩
  |exact pf fun k=>by obtain⟨a1,a2⟩:=k;omega
theorem Mw {h:AH} {t:Task} {v v':AV}:aN Tryz.prog wo [.agg (t.cs v v')] h (.bool (bp (t.op=2∧t.pc=2))):=by
 refine reader (ab8 _) (by simp only[old]) ?_
 unfold MO
 (repeat' first|refine vs ?_|(refine br ?_ ?_<;>first|exact bx|intro _)|fail)
 all_goals first
  |exact pt ⟨by omega,by omega⟩
  |exact pf fun k=>by obtain⟨a1,a2⟩:=k;omega
end Go.Proofs.YtekfdoknfcedpaaGreat
end
section
set_option linter.unusedSimpArgs false
set_option linter.unusedVariables false
set_option maxHeartbeats 1000000
namespace Go.Proofs.YtekfdoknfcedpaaGreat
open Go Go.Ab
section
end
end Go.Proofs.YtekfdoknfcedpaaGreat
end
section
set_option linter.unusedSimpArgs false
set_option linter.unusedVariables false
set_option maxHeartbeats 1000000
namespace Go.Proofs.YtekfdoknfcedpaaGreat
open Go Go.Ab
section
def Sv (x0:AV):Prog:=Bn .and x0 (.int .i64 65535) fun a=>Bn .shl a (.int .u64 7) fun b=>Bn .and b (.int .i64 65535) fun b=>Bn .xor a b fun a=>Bn .shr a (.int .u64 9) fun b=>Bn .xor a b fun a=>Bn .shl a (.int .u64 8) fun b=>Bn .and b (.int .i64 65535) fun b=>Bn .xor a b fun a=>.fin [.val a]
theorem ajB (x0:AV):CC Tryz.prog CX [x0] (Sv x0):=cc Tryz.func212
def Sl (x0:AV):Prog:=Bn .and x0 (.int .i64 65535) fun a=>Bn .shl a (.int .u64 7) fun b=>Bn .xor a b fun a=>Bn .and a (.int .i64 65535) fun a=>Bn .shr a (.int .u64 9) fun b=>Bn .xor a b fun a=>Bn .shl a (.int .u64 8) fun b=>Bn .xor a b fun a=>Bn .and a (.int .i64 65535) fun a=>.fin [.val a]
theorem ajw (x0:AV):CC Tryz.prog CU [x0] (Sl x0):=cc Tryz.func184
def N7 (x0 x1:AV):Prog:=Bn .lss x1 (.int .i64 1) fun a=>.ite a (.fin [.val (.int .i64 0)]) (Cl CX [x0] fun a=>Bn .rem a x1 fun a=>.fin [.val a])
theorem aec (x0 x1:AV):CC Tryz.prog jF [x0,x1] (N7 x0 x1):=cc Tryz.func127
def Nv (x0 x1:AV):Prog:=Bn .lss x1 (.int .i64 1) fun a=>.ite a (.fin [.val (.int .i64 0)]) (Cl CU [x0] fun a=>Bn .rem a x1 fun a=>.fin [.val a])
theorem adG (x0 x1:AV):CC Tryz.prog iP [x0,x1] (Nv x0 x1):=cc Tryz.func108
def Mh (x0 x1:AV):Prog:=.op (.box x0) fun a=>Bn .lss x1 (.int .i64 1) fun b=>.ite b (.fin [.val (.int .i64 (-1))]) (Lg 0 a fun b=>Bn .eql b (.int .i64 1) fun b=>Gf b true 1 a fun c=>.gop b true (.bin 0 .eql c (.int .i64 1)) fun c=>Pk b c (.bool false) fun b=>.ite b (.op (.fad 2 a) fun a=>Lg 0 a fun a=>Cl jF [a,x1] fun a=>.fin [.val a]) (Lg 0 a fun b=>Bn .eql b (.int .i64 1) fun b=>Gf b true 1 a fun c=>.gop b true (.bin 0 .eql c (.int .i64 3)) fun c=>Pk b c (.bool false) fun b=>.scope (.ite b (.leaf 0 [b]) (Lg 0 a fun b=>Bn .eql b (.int .i64 2) fun b=>Gf b true 1 a fun c=>.gop b true (.bin 0 .eql c (.int .i64 1)) fun c=>.gop b true (.mv c) fun c=>Gf c false 1 a fun a=>.gop c false (.bin 0 .eql a (.int .i64 2)) fun a=>.gop b true (.pick c (.bool true) a) fun a=>Pk b a (.bool false) fun a=>.leaf 0 [a])) (fun b=>.ite (g b 0) (Lg 8 a fun a=>Cl jF [a,x1] fun a=>.fin [.val a]) (.fin [.val (.int .i64 (-1))])) fun a b=>aA a 1 (.leaf 1 b) .bad))
theorem aat (x0 x1:AV):CC Tryz.prog GY [x0,x1] (Mh x0 x1):=cc Tryz.func206 [1,2,22] (fun _=>[])
def Md (x0 x1:AV):Prog:=.op (.box x0) fun a=>Bn .lss x1 (.int .i64 1) fun b=>.ite b (.fin [.val (.int .i64 (-1))]) (Lg 0 a fun b=>Bn .eql b (.int .i64 1) fun b=>Gf b true 1 a fun c=>.gop b true (.bin 0 .eql c (.int .i64 1)) fun c=>Pk b c (.bool false) fun b=>.ite b (.op (.fad 2 a) fun a=>Lg 0 a fun a=>Cl iP [a,x1] fun a=>.fin [.val a]) (Lg 0 a fun b=>Bn .eql b (.int .i64 1) fun b=>Gf b true 1 a fun c=>.gop b true (.bin 0 .eql c (.int .i64 3)) fun c=>Pk b c (.bool false) fun b=>.scope (.ite b (.leaf 0 [b]) (Lg 0 a fun b=>Bn .eql b (.int .i64 2) fun b=>Gf b true 1 a fun c=>.gop b true (.bin 0 .eql c (.int .i64 1)) fun c=>.gop b true (.mv c) fun c=>Gf c false 1 a fun a=>.gop c false (.bin 0 .eql a (.int .i64 2)) fun a=>.gop b true (.pick c (.bool true) a) fun a=>Pk b a (.bool false) fun a=>.leaf 0 [a])) (fun b=>.ite (g b 0) (Lg 8 a fun a=>Cl iP [a,x1] fun a=>.fin [.val a]) (.fin [.val (.int .i64 (-1))])) fun a b=>aA a 1 (.leaf 1 b) .bad))
theorem aal (x0 x1:AV):CC Tryz.prog GR [x0,x1] (Md x0 x1):=cc Tryz.func182 [1,2,21] (fun _=>[])
def PN (x0:AV):Prog:=.op (.box x0) fun a=>Lg 3 a fun b=>Ln 0 b fun c=>.loop [.int .i64 0] (fun d=>Bn .lss (g d 0) c fun c=>.ite c (Ix 6 b (g d 0) fun b=>Ld 6 b fun b=>.op (.alloc iT) fun c=>.op (.st 6 c b) fun _=>Ld 6 c fun b=>Cl oz [b] fun b=>.op (.una .not b) fun b=>Gf b false 0 c fun c=>Gf b false 0 a fun a=>.gop b false (.bin 0 .neq c a) fun a=>Pk b (.bool true) a fun a=>.ite a (.fin [.val (.bool false)]) (Bn .add (g d 0) (.int .i64 1) fun a=>.leaf 0 [a])) (.leaf 2 [g d 0])) fun b c=>aA b 1 (.leaf 1 c) (aA b 2 (Lg 0 a fun b=>Cl bK [b,.int .i64 1,.int .i64 999] fun b=>Gf b true 1 a fun c=>.gop b true (.bin 0 .geq c (.int .i64 1)) fun c=>Pk b c (.bool false) fun b=>Gf b true 2 a fun c=>.gop b true (.call bK [c,.int .i64 0,.int .i64 2147483647]) fun c=>Pk b c (.bool false) fun b=>Gf b true 3 a fun a=>.gop b true (.len 0 a) fun a=>.gop b true (.bin 0 .gtr a (.int .i64 0)) fun a=>Pk b a (.bool false) fun a=>.fin [.val a]) .bad)
theorem agu (x0:AV):CC Tryz.prog BS [x0] (PN x0):=cc Tryz.func267 [1,6,7,8] (fun _=>[])
def OU (x0:AV):Prog:=.op (.box x0) fun a=>.loop [.int .i64 0] (fun b=>Lg 3 a fun c=>Ln 0 c fun c=>Bn .lss (g b 0) c fun c=>.ite c (Lg 3 a fun c=>Ix 6 c (g b 0) fun c=>Ld 6 c fun c=>Cl om [c] fun c=>.op (.una .not c) fun c=>Gf c false 3 a fun d=>.gop c false (.mv (g b 0)) fun e=>.gop c false (.idx 6 d e) fun d=>Gf c false 0 d fun d=>Gf c false 0 a fun a=>.gop c false (.bin 0 .neq d a) fun a=>Pk c (.bool true) a fun a=>.ite a (.fin [.val (.bool false)]) (Bn .add (g b 0) (.int .i64 1) fun a=>.leaf 0 [a])) (.leaf 2 [g b 0])) fun b c=>aA b 1 (.leaf 1 c) (aA b 2 (Lg 0 a fun b=>Cl bP [b,.int .i64 1,.int .i64 999] fun b=>Gf b true 1 a fun c=>.gop b true (.bin 0 .geq c (.int .i64 1)) fun c=>Pk b c (.bool false) fun b=>Gf b true 2 a fun c=>.gop b true (.call bP [c,.int .i64 0,.int .i64 2147483647]) fun c=>Pk b c (.bool false) fun b=>Gf b true 3 a fun a=>.gop b true (.len 0 a) fun a=>.gop b true (.bin 0 .geq a (.int .i64 1)) fun a=>Pk b a (.bool false) fun a=>.fin [.val a]) .bad)
theorem afC (x0:AV):CC Tryz.prog Bj [x0] (OU x0):=cc Tryz.func174 [1,3] (fun r=>if r=4 then[(0,[]),(1,[]),(2,[]),(3,[]),(4,[]),(5,[]),(6,[]),(7,[]),(8,[]),(9,[]),(10,[]),(11,[]),(12,[]),(13,[]),(14,[]),(15,[]),(16,[]),(17,[])] else[])
end
section
variable{P:Program} {h:AH} {Q:Nat→List AV→AH→Prop} {k:AV→Prog}
theorem E8 {p:Nat} (hp:p < 9223372036854775808):(BitVec.ofInt 64 (p:Int)).toNat=p:=by
 rw[BitVec.ofInt_natCast,BitVec.toNat_ofNat];omega
theorem EF {p q:Nat} (hp:p < 9223372036854775808) (hq:q < 9223372036854775808) (hk:(k (.int .i64 ((p &&& q:Nat):Int))).awp P h Q):(Prog.op (.bin 0 .and (.int .i64 (p:Int)) (.int .i64 (q:Int))) k).awp P h Q:=by
 have e:dP .and (.int .i64 (p:Int)) (.int .i64 (q:Int))=some (.int .i64 ((p &&& q:Nat):Int)):=by
  have h1:(BitVec.ofInt 64 (p:Int) &&& BitVec.ofInt 64 (q:Int)).toNat=p &&& q:=by rw[BitVec.toNat_and,E8 hp,E8 hq]
  have h2:p &&& q≤p:=Nat.and_le_left
  show(if IntKind.i64=IntKind.i64 then some (AV.int .i64 (IntKind.i64.wrap ((BitVec.ofInt 64 (p:Int) &&& BitVec.ofInt 64 (q:Int)).toNat:Int))) else none)=_
  rw[if_pos rfl,h1,iA (by omega) (by omega)]
 simp only[Prog.awp,AOp.go,dQ,e];exact hk
theorem Vi {a:Int} (hk:(k (.int .i64 (((BitVec.ofInt 64 a).toNat % 65536:Nat):Int))).awp P h Q):(Prog.op (.bin 0 .and (.int .i64 a) (.int .i64 65535)) k).awp P h Q:=by
 have e:dP .and (.int .i64 a) (.int .i64 65535)=some (.int .i64 (((BitVec.ofInt 64 a).toNat % 65536:Nat):Int)):=by
  have h1:(BitVec.ofInt 64 a &&& BitVec.ofInt 64 65535).toNat=(BitVec.ofInt 64 a).toNat % 65536:=by
   rw[BitVec.toNat_and,show(BitVec.ofInt 64 65535).toNat=2 ^ 16 - 1 by decide,Nat.and_two_pow_sub_one_eq_mod]
  show(if IntKind.i64=IntKind.i64 then some (AV.int .i64 (IntKind.i64.wrap ((BitVec.ofInt 64 a &&& BitVec.ofInt 64 65535).toNat:Int))) else none)=_
  rw[if_pos rfl,h1,iA (by omega) (by omega)]
 simp only[Prog.awp,AOp.go,dQ,e];exact hk
theorem vk {p q:Nat} (hp:p < 4294967296) (hq:q < 4294967296) (hk:(k (.int .i64 ((p ^^^ q:Nat):Int))).awp P h Q):(Prog.op (.bin 0 .xor (.int .i64 (p:Int)) (.int .i64 (q:Int))) k).awp P h Q:=by
 have e:dP .xor (.int .i64 (p:Int)) (.int .i64 (q:Int))=some (.int .i64 ((p ^^^ q:Nat):Int)):=by
  have h1:(BitVec.ofInt 64 (p:Int) ^^^ BitVec.ofInt 64 (q:Int)).toNat=p ^^^ q:=by rw[BitVec.toNat_xor,E8 (by omega),E8 (by omega)]
  have h2:p ^^^ q < 2 ^ 32:=Nat.xor_lt_two_pow hp hq
  show(if IntKind.i64=IntKind.i64 then some (AV.int .i64 (IntKind.i64.wrap ((BitVec.ofInt 64 (p:Int) ^^^ BitVec.ofInt 64 (q:Int)).toNat:Int))) else none)=_
  rw[if_pos rfl,h1,iA (by omega) (by omega)]
 simp only[Prog.awp,AOp.go,dQ,e];exact hk
theorem Vf {p:Nat} (hp:p < 65536) (hk:(k (.int .i64 ((p * 128:Nat):Int))).awp P h Q):(Prog.op (.bin 0 .shl (.int .i64 (p:Int)) (.int .u64 7)) k).awp P h Q:=by
 have e:dP .shl (.int .i64 (p:Int)) (.int .u64 7)=some (.int .i64 ((p * 128:Nat):Int)):=by
  show(if(7:Int) < 0 then none else some (AV.int .i64 (IntKind.i64.wrap ((p:Int) * 2 ^ (min (7:Int).toNat IntKind.i64.bits)))))=_
  rw[if_neg (by decide),show(2:Int) ^ (min (7:Int).toNat IntKind.i64.bits)=128 by decide,iA (by omega) (by omega)]
  simp
 simp only[Prog.awp,AOp.go,dQ,e];exact hk
theorem Ve {p:Nat} (hp:p < 65536) (hk:(k (.int .i64 ((p * 256:Nat):Int))).awp P h Q):(Prog.op (.bin 0 .shl (.int .i64 (p:Int)) (.int .u64 8)) k).awp P h Q:=by
 have e:dP .shl (.int .i64 (p:Int)) (.int .u64 8)=some (.int .i64 ((p * 256:Nat):Int)):=by
  show(if(8:Int) < 0 then none else some (AV.int .i64 (IntKind.i64.wrap ((p:Int) * 2 ^ (min (8:Int).toNat IntKind.i64.bits)))))=_
  rw[if_neg (by decide),show(2:Int) ^ (min (8:Int).toNat IntKind.i64.bits)=256 by decide,iA (by omega) (by omega)]
  simp
 simp only[Prog.awp,AOp.go,dQ,e];exact hk
theorem Vd {p:Nat} (hk:(k (.int .i64 ((p / 512:Nat):Int))).awp P h Q):(Prog.op (.bin 0 .shr (.int .i64 (p:Int)) (.int .u64 9)) k).awp P h Q:=by
 have e:dP .shr (.int .i64 (p:Int)) (.int .u64 9)=some (.int .i64 ((p / 512:Nat):Int)):=by
  show(if(9:Int) < 0 then none else some (AV.int .i64 ((p:Int).fdiv (2 ^ (min (9:Int).toNat IntKind.i64.bits)))))=_
  rw[if_neg (by decide),show(2:Int) ^ (min (9:Int).toNat IntKind.i64.bits)=512 by decide,Int.fdiv_eq_ediv_of_nonneg _ (by decide),show(p:Int) / 512=((p / 512:Nat):Int) by omega]
 simp only[Prog.awp,AOp.go,dQ,e];exact hk
end
def gN (n:Int):Nat:=(BitVec.ofInt 64 n).toNat % 65536
def lC (a:Nat):Nat:=a ^^^ (a * 128) % 65536
def yZ (a:Nat):Nat:=a ^^^ a / 512
def anv (a:Nat):Nat:=a ^^^ (a * 256) % 65536
def mix (n:Int):Nat:=anv (yZ (lC (gN n)))
theorem UD (n:Int):gN n < 65536:=Nat.mod_lt _ (by decide)
theorem UC {a:Nat} (h:a < 65536):lC a < 65536:=Nat.xor_lt_two_pow (n:=16) h (Nat.mod_lt _ (by decide))
theorem UA {a:Nat} (h:a < 65536):yZ a < 65536:=Nat.xor_lt_two_pow (n:=16) h (by omega)
theorem ajc {h:AH} {n:Int}:aN Tryz.prog CX [.int .i64 n] h (.int .i64 (mix n:Nat)):=by
 refine reader (ajB _) (by simp only[old]) ?_
 unfold Sv
 have l0:=UD n
 have l1:=UC l0
 have l2:=UA l1
 refine Vi ?_
 rw[show(BitVec.ofInt 64 n).toNat % 65536=gN n from rfl]
 refine Vf l0 (EF (q:=65535) (by omega) (by decide) (vk (by omega) ?_ ?_))
 ·exact Nat.lt_of_le_of_lt Nat.and_le_right (by decide)
 rw[Nat.and_two_pow_sub_one_eq_mod (n:=16),show gN n ^^^ gN n * 128 % 2 ^ 16=lC (gN n) from rfl]
 refine Vd (vk (by omega) (by omega) ?_)
 rw[show lC (gN n) ^^^ lC (gN n) / 512=yZ (lC (gN n)) from rfl]
 refine Ve l2 (EF (q:=65535) (by omega) (by decide) (vk (by omega) ?_ ?_))
 ·exact Nat.lt_of_le_of_lt Nat.and_le_right (by decide)
 rw[Nat.and_two_pow_sub_one_eq_mod (n:=16)]
 exact dI (pi rfl)
theorem ai9 {h:AH} {n:Int}:aN Tryz.prog CU [.int .i64 n] h (.int .i64 (mix n:Nat)):=by
 refine reader (ajw _) (by simp only[old]) ?_
 unfold Sl
 have l0:=UD n
 have l1:=UC l0
 have l2:=UA l1
 have x1:∀ a:Nat,a < 65536→(a ^^^ (a * 128)) < 4294967296:=fun a ha=>Nat.xor_lt_two_pow (n:=32) (by omega) (by omega)
 have x2:∀ a:Nat,a < 65536→(a ^^^ (a * 256)) < 4294967296:=fun a ha=>Nat.xor_lt_two_pow (n:=32) (by omega) (by omega)
 have y1:=x1 _ l0
 have y2:=x2 _ l2
 refine Vi ?_
 rw[show(BitVec.ofInt 64 n).toNat % 65536=gN n from rfl]
 refine Vf l0 (vk (by omega) (by omega) (EF (q:=65535) (by omega) (by decide) ?_))
 rw[Nat.and_two_pow_sub_one_eq_mod (n:=16),Nat.xor_mod_two_pow,Nat.mod_eq_of_lt (a:=gN n) (b:=2 ^ 16) l0,show gN n ^^^ gN n * 128 % 2 ^ 16=lC (gN n) from rfl]
 refine Vd (vk (by omega) (by omega) ?_)
 rw[show lC (gN n) ^^^ lC (gN n) / 512=yZ (lC (gN n)) from rfl]
 refine Ve l2 (vk (by omega) (by omega) (EF (q:=65535) (by omega) (by decide) ?_))
 rw[Nat.and_two_pow_sub_one_eq_mod (n:=16),Nat.xor_mod_two_pow,Nat.mod_eq_of_lt (a:=yZ (lC (gN n))) (b:=2 ^ 16) l2]
 exact dI (pi rfl)
def stripe (t n:Int):Int:=if n < 1 then 0 else((mix t:Nat):Int).tmod n
theorem kL {t n:Int} (hn:1≤n):0≤stripe t n∧stripe t n < n:=by
 unfold stripe
 rw[if_neg (by omega)]
 exact⟨Int.tmod_nonneg _ (by omega),Int.tmod_lt_of_pos _ (by omega)⟩
theorem tC {h:AH} {t n:Int}:aN Tryz.prog jF [.int .i64 t,.int .i64 n] h (.int .i64 (stripe t n)):=by
 refine reader (aec _ _) (by simp only[old]) ?_
 unfold N7
 (repeat' first|refine vs ?_|(refine br ?_ ?_<;>first|exact bx|intro _)|((with_reducible refine aB CX ?_);refine aQ ajc ?_)|fail)
 ·exact pi (by unfold stripe;rw[if_pos (by assumption)])
 ·refine nD (by omega) (dI (pi ?_))
  unfold stripe;rw[if_neg (by assumption)]
theorem qp {h:AH} {t n:Int}:aN Tryz.prog iP [.int .i64 t,.int .i64 n] h (.int .i64 (stripe t n)):=by
 refine reader (adG _ _) (by simp only[old]) ?_
 unfold Nv
 (repeat' first|refine vs ?_|(refine br ?_ ?_<;>first|exact bx|intro _)|((with_reducible refine aB CU ?_);refine aQ ai9 ?_)|fail)
 ·exact pi (by unfold stripe;rw[if_pos (by assumption)])
 ·refine nD (by omega) (dI (pi ?_))
  unfold stripe;rw[if_neg (by assumption)]
def dU (t:Task) (n:Int):Int:=if n < 1 then -1 else if t.op=1∧t.pc=1 then stripe t.s.trace n else if(t.op=1∧t.pc=3)∨(t.op=2∧(t.pc=1∨t.pc=2)) then stripe t.trace n else -1
theorem aae {h:AH} {t:Task} {n:Int} {v v':AV}:aN Tryz.prog GY [.agg (t.cs v v'),.int .i64 n] h (.int .i64 (dU t n)):=by
 refine reader (aat _ _) (by simp only[old]) ?_
 unfold Mh
 (repeat' first|refine vs ?_|(refine br ?_ ?_<;>first|exact bo|intro _)|((with_reducible refine aB jF ?_);refine aQ tC ?_)|((with_reducible refine aJ ?_);simp only[g0,g1,g2]))
 all_goals(refine pi ?_;simp[dU, *])
theorem Z8 {h:AH} {t:Task} {n:Int} {v v':AV}:aN Tryz.prog GR [.agg (t.cs v v'),.int .i64 n] h (.int .i64 (dU t n)):=by
 refine reader (aal _ _) (by simp only[old]) ?_
 unfold Md
 (repeat' first|refine vs ?_|(refine br ?_ ?_<;>first|exact bo|intro _)|((with_reducible refine aB iP ?_);refine aQ qp ?_)|((with_reducible refine aJ ?_);simp only[g0,g1,g2]))
 all_goals(refine pi ?_;simp[dU, *])
def D9 (t:Trail):Prop:=(∀ s∈t.spans,pE s∧s.trace=t.id)∧(1≤t.id∧t.id≤999)∧1≤t.stamp∧(0≤t.first∧t.first≤2147483647)∧0 < (t.spans.length:Int)
theorem ae5 {h:AH} {t:Trail} {v:AV} {F:List Nat} (ok:∀ x∈t.spans,Cel.ok x) (hs:Sz.sz t≤67108864) (r:au h v t.spans F):aN Tryz.prog BS [.agg (t.cs v)] h (.bool (bp (D9 t))):=by
 refine reader (agu _) (by simp only[old]) ?_
 unfold PN
 have hsz:Sz.sz t=t.spans.length+szs t.spans:=rfl
 refine vs ?_
 refine aY t.spans.length (fun i vs h1=>vs=[.int .i64 (i:Int)]∧i≤t.spans.length∧Ext (h.push ⟨t.cs v,0,0⟩) h1∧bW t.spans (fun _ s=>pE s∧s.trace=t.id) i) ⟨rfl,Nat.zero_le _,aG,up0⟩ ?_
 rintro i vs h1 _ ⟨rfl,hi,e1,hu⟩
 simp only[g0]
 refine br (fun hlt=>?_) (fun hge=>?_)
 ·obtain⟨x,hx,-,-⟩:=aR (show i < t.spans.length by omega)
  have hm:=List.mem_of_getElem? hx
  have h5:=bI hm
  (repeat' first|refine vs ?_|(refine br ?_ ?_<;>first|exact bx|intro _)|((with_reducible refine aB oz ?_);(refine aX (Jf (ok x hm) (by omega) ah) ?_ ?_<;>intro hn))|((with_reducible refine aC ?_);((refine ix ?_);rintro _ _ _ _ _ ⟨_,rfl,_⟩ _))|fail)
  all_goals first
   |exact pf fun k=>gY hx (by rintro⟨a1,a2⟩;contradiction) k.1
   |exact⟨by omega,rfl,by omega,aG,upS hu hx ⟨hn,by omega⟩⟩
 ·have e:i=t.spans.length:=by omega
  rw[e] at hu
  have hu:=dX hu
  (repeat' first|refine vs ?_|(refine br ?_ ?_<;>first|exact bx|intro _)|((with_reducible refine aB bK ?_);(refine cK eY ?_ ?_<;>intro hb<;>first|replace hb:=dx hb|replace hb:=dz hb))|fail)
  all_goals first
   |exact pt ⟨hu,by omega,by omega,by omega,by omega⟩
   |exact pf fun k=>by obtain⟨a1,a2,a3,a4,a5⟩:=k;omega
theorem aeu {h:AH} {t:Trail} {v:AV} {F:List Nat} (ok:∀ x∈t.spans,Cel.ok x) (hs:Sz.sz t≤67108864) (r:au h v t.spans F):aN Tryz.prog Bj [.agg (t.cs v)] h (.bool (bp (D9 t))):=by
 refine reader (afC _) (by simp only[old]) ?_
 unfold OU
 have hsz:Sz.sz t=t.spans.length+szs t.spans:=rfl
 have hsm:=r.small
 refine vs ?_
 refine aY t.spans.length (fun i vs h1=>vs=[.int .i64 (i:Int)]∧i≤t.spans.length∧Ext (h.push ⟨t.cs v,0,0⟩) h1∧bW t.spans (fun _ s=>pE s∧s.trace=t.id) i) ⟨rfl,Nat.zero_le _,aG,up0⟩ ?_
 rintro i vs h1 _ ⟨rfl,hi,e1,hu⟩
 simp only[g0]
 refine vs ?_
 refine br (fun hlt=>?_) (fun hge=>?_)
 ·obtain⟨x,hx,-,-⟩:=aR (show i < t.spans.length by omega)
  have hm:=List.mem_of_getElem? hx
  have h5:=bI hm
  (repeat' first|refine vs ?_|(refine br ?_ ?_<;>first|exact bx|intro _)|((with_reducible refine aB om ?_);(refine aX (Jc (ok x hm) (by omega) ah) ?_ ?_<;>intro hn))|((with_reducible refine aC ?_);((refine ix ?_);rintro _ _ _ _ _ ⟨_,rfl,_⟩ _))|fail)
  all_goals first
   |exact pf fun k=>gY hx (by rintro⟨a1,a2⟩;contradiction) k.1
   |exact⟨by omega,rfl,by omega,aG,upS hu hx ⟨hn,by omega⟩⟩
 ·have e:i=t.spans.length:=by omega
  rw[e] at hu
  have hu:=dX hu
  (repeat' first|refine vs ?_|(refine br ?_ ?_<;>first|exact bx|intro _)|((with_reducible refine aB bP ?_);(refine cK fV ?_ ?_<;>intro hb<;>first|replace hb:=dx hb|replace hb:=dz hb))|fail)
  all_goals first
   |exact pt ⟨hu,by omega,by omega,by omega,by omega⟩
   |exact pf fun k=>by obtain⟨a1,a2,a3,a4,a5⟩:=k;omega
def fits (c:fF) (s:Span):Prop:=pE s∧jh s≤c.budget
end Go.Proofs.YtekfdoknfcedpaaGreat
end
section
set_option linter.unusedSimpArgs false
set_option linter.unusedVariables false
set_option maxHeartbeats 1000000
namespace Go.Proofs.YtekfdoknfcedpaaGreat
open Go Go.Ab
section
def NY (x0:AV):Prog:=.op (.box x0) fun a=>.op (.alloc iT) fun b=>Lg 5 a fun c=>.op (.app 4 48 .aF c) fun c=>Sg 5 a c fun _=>Ld 6 a fun a=>.op (.st 6 b a) fun _=>.fin [.cn 6 b]
theorem aea (x0:AV):CC Tryz.prog lK [x0] (NY x0):=cc Tryz.func80
def Qo (x0:AV):Prog:=.op (.box x0) fun a=>.op (.alloc iT) fun b=>.op (.bE 4 0 [] []) fun c=>Lg 5 a fun d=>.op (.app 4 48 c d) fun c=>Sg 5 a c fun _=>Ld 6 a fun a=>.op (.st 6 b a) fun _=>.fin [.cn 6 b]
theorem ahs (x0:AV):CC Tryz.prog lN [x0] (Qo x0):=cc Tryz.func161
def ab2 (x0:AV):Prog:=Ln 0 x0 fun a=>.loop [.aF,.int .i64 0] (fun b=>Bn .lss (g b 1) a fun a=>.ite a (Ix 6 x0 (g b 1) fun a=>Ld 6 a fun a=>.op (.alloc iT) fun c=>.op (.st 6 c a) fun _=>Ld 6 c fun a=>Cl lK [a] fun a=>.op (.bE 6 1 iT [(0,6,a)]) fun a=>.op (.app 6 64 (g b 0) a) fun a=>Bn .add (g b 1) (.int .i64 1) fun b=>.leaf 0 [a,b]) (.leaf 2 [g b 0,g b 1])) fun a b=>aA a 1 (.leaf 1 b) (aA a 2 (.fin [.val (g b 0)]) .bad)
theorem acP (x0:AV):CC Tryz.prog Ag [x0] (ab2 x0):=cc Tryz.func280 [3,6,7,8] (fun _=>[])
def aiy (x0:AV):Prog:=.op (.bE 6 0 [] []) fun a=>.loop [a,.int .i64 0] (fun a=>Ln 0 x0 fun b=>Bn .lss (g a 1) b fun b=>.ite b (Ix 6 x0 (g a 1) fun b=>Ld 6 b fun b=>Cl lN [b] fun b=>.op (.alloc iT) fun c=>.op (.st 6 c b) fun _=>Ld 6 c fun b=>.op (.bE 6 1 iT [(0,6,b)]) fun b=>.op (.app 6 64 (g a 0) b) fun b=>Bn .add (g a 1) (.int .i64 1) fun a=>.leaf 0 [b,a]) (.leaf 2 [g a 0,g a 1])) fun a b=>aA a 1 (.leaf 1 b) (aA a 2 (.fin [.val (g b 0)]) .bad)
theorem aiB (x0:AV):CC Tryz.prog CK [x0] (aiy x0):=cc Tryz.func308 [0,3,4] (fun _=>[])
def Na (x0:AV):Prog:=.op (.box x0) fun a=>.op (.alloc [.int .i64 0,.int .i64 0,.int .i64 0,.aF]) fun b=>Lg 3 a fun c=>Cl Ag [c] fun c=>Sg 3 a c fun _=>Ld 4 a fun a=>.op (.st 4 b a) fun _=>.fin [.cn 4 b]
theorem acO (x0:AV):CC Tryz.prog wC [x0] (Na x0):=cc Tryz.func214
def OP (x0:AV):Prog:=.op (.box x0) fun a=>.op (.alloc [.int .i64 0,.int .i64 0,.int .i64 0,.aF]) fun b=>Lg 3 a fun c=>Cl CK [c] fun c=>Sg 3 a c fun _=>Ld 4 a fun a=>.op (.st 4 b a) fun _=>.fin [.cn 4 b]
theorem afz (x0:AV):CC Tryz.prog wH [x0] (OP x0):=cc Tryz.func248
def aaS (x0:AV):Prog:=Ln 0 x0 fun a=>.loop [.aF,.int .i64 0] (fun b=>Bn .lss (g b 1) a fun a=>.ite a (Ix 4 x0 (g b 1) fun a=>Ld 4 a fun a=>.op (.alloc [.int .i64 0,.int .i64 0,.int .i64 0,.aF]) fun c=>.op (.st 4 c a) fun _=>Ld 4 c fun a=>Cl wC [a] fun a=>.op (.bE 4 1 [.int .i64 0,.int .i64 0,.int .i64 0,.aF] [(0,4,a)]) fun a=>.op (.app 4 48 (g b 0) a) fun a=>Bn .add (g b 1) (.int .i64 1) fun b=>.leaf 0 [a,b]) (.leaf 2 [g b 0,g b 1])) fun a b=>aA a 1 (.leaf 1 b) (aA a 2 (.fin [.val (g b 0)]) .bad)
theorem aa4 (x0:AV):CC Tryz.prog sV [x0] (aaS x0):=cc Tryz.func193 [3,6,7,8] (fun _=>[])
def ahh (x0:AV):Prog:=.op (.bE 4 0 [] []) fun a=>.loop [a,.int .i64 0] (fun a=>Ln 0 x0 fun b=>Bn .lss (g a 1) b fun b=>.ite b (Ix 4 x0 (g a 1) fun b=>Ld 4 b fun b=>Cl wH [b] fun b=>.op (.alloc [.int .i64 0,.int .i64 0,.int .i64 0,.aF]) fun c=>.op (.st 4 c b) fun _=>Ld 4 c fun b=>.op (.bE 4 1 [.int .i64 0,.int .i64 0,.int .i64 0,.aF] [(0,4,b)]) fun b=>.op (.app 4 48 (g a 0) b) fun b=>Bn .add (g a 1) (.int .i64 1) fun a=>.leaf 0 [b,a]) (.leaf 2 [g a 0,g a 1])) fun a b=>aA a 1 (.leaf 1 b) (aA a 2 (.fin [.val (g b 0)]) .bad)
theorem ahw (x0:AV):CC Tryz.prog Cj [x0] (ahh x0):=cc Tryz.func170 [0,3,4] (fun _=>[])
def Mg (x0:AV):Prog:=Ln 0 x0 fun a=>.loop [.aF,.int .i64 0] (fun b=>Bn .lss (g b 1) a fun a=>.ite a (Ix 2 x0 (g b 1) fun a=>Ld 2 a fun a=>.op (.alloc [.int .i64 0,.aF]) fun c=>.op (.st 2 c a) fun _=>.op (.fad 0 c) fun a=>.op (.ld1 a) fun d=>Lg 1 c fun c=>Cl sV [c] fun c=>.chk (.ld1 a) d (.op (.build [.int .i64 0,.aF] [(0,1,d),(1,1,c)]) fun a=>.op (.bE 2 1 [.int .i64 0,.aF] [(0,2,a)]) fun a=>.op (.app 2 32 (g b 0) a) fun a=>Bn .add (g b 1) (.int .i64 1) fun b=>.leaf 0 [a,b])) (.leaf 2 [g b 0,g b 1])) fun a b=>aA a 1 (.leaf 1 b) (aA a 2 (.fin [.val (g b 0)]) .bad)
theorem aas (x0:AV):CC Tryz.prog zI [x0] (Mg x0):=cc Tryz.func120 [3,6,7,8] (fun r=>if r=5 then[(0,[]),(1,[]),(2,[]),(3,[]),(4,[]),(5,[2]),(6,[]),(7,[]),(8,[]),(9,[])] else[])
def OM (x0:AV):Prog:=.op (.bE 2 0 [] []) fun a=>.loop [a,.int .i64 0] (fun a=>Ln 0 x0 fun b=>Bn .lss (g a 1) b fun b=>.ite b (Ix 2 x0 (g a 1) fun b=>.op (.fad 0 b) fun b=>.op (.ld1 b) fun c=>Ix 2 x0 (g a 1) fun d=>Lg 1 d fun d=>Cl Cj [d] fun d=>.chk (.ld1 b) c (.op (.build [.int .i64 0,.aF] [(0,1,c),(1,1,d)]) fun b=>.op (.bE 2 1 [.int .i64 0,.aF] [(0,2,b)]) fun b=>.op (.app 2 32 (g a 0) b) fun b=>Bn .add (g a 1) (.int .i64 1) fun a=>.leaf 0 [b,a])) (.leaf 2 [g a 0,g a 1])) fun a b=>aA a 1 (.leaf 1 b) (aA a 2 (.fin [.val (g b 0)]) .bad)
theorem afy (x0:AV):CC Tryz.prog Bg [x0] (OM x0):=cc Tryz.func92 [0,3,4] (fun r=>if r=5 then[(0,[]),(1,[]),(2,[]),(3,[]),(4,[]),(5,[]),(6,[]),(7,[]),(8,[]),(9,[]),(10,[]),(11,[5]),(12,[]),(13,[]),(14,[]),(15,[])] else[])
end
theorem wE (x:Span) (hs:Sz.sz x≤67108864):dA Span Tryz.prog lK x:=by
 rintro cs F h ⟨v0,rfl,r0⟩
 have hs:(x.attrs.length+szs x.attrs)≤67108864:=hs
 refine aea _ ?_
 unfold NY
 (repeat' first|refine vs ?_|fail)
 refine app0 (n:=h.n+2) (ys:=x.attrs) (Fy:=F) ah (mW (α:=Attr) r0 _) aP rfl (by omega) ?_
 intro u h' F' e r' o'
 have n1:=e.1
 simp only[aO] at n1
 (repeat' first|refine vs ?_|fail)
 exact⟨rfl,_,rfl,aG,_,_,rfl,⟨_,rfl,ah⟩,bJ⟩
theorem wL (x:Span) (hs:Sz.sz x≤67108864):dA Span Tryz.prog lN x:=by
 rintro cs F h ⟨v0,rfl,r0⟩
 have hs:(x.attrs.length+szs x.attrs)≤67108864:=hs
 refine ahs _ ?_
 unfold Qo
 (repeat' first|refine vs ?_|fail)
 refine GA (n:=h.n+2) (ys:=x.attrs) (Fy:=F) ah (mW (α:=Attr) r0 _) aP rfl (by omega) ?_
 intro u h' F' e r' o'
 have n1:=e.1
 simp only[aO] at n1
 (repeat' first|refine vs ?_|fail)
 exact⟨rfl,_,rfl,aG,_,_,rfl,⟨_,rfl,ah⟩,bJ⟩
theorem abA (xs:List Span) (hs:xs.length+szs xs≤67108864):dZ Tryz.prog Ag xs:=fun v F h r=>
 acP _ (SV rfl rfl (by decide) (fun x hx=>wE x (by have:=bI hx;omega)) r (by omega))
theorem aio (xs:List Span) (hs:xs.length+szs xs≤67108864):dZ Tryz.prog CK xs:=fun v F h r=>
 aiB _ (JO rfl rfl (by decide) (fun x hx=>wL x (by have:=bI hx;omega)) r (by omega))
theorem MC (x:Trail) (hs:Sz.sz x≤67108864):dA Trail Tryz.prog wC x:=by
 rintro cs F h ⟨v0,rfl,r0⟩
 have hs:(x.spans.length+szs x.spans)≤67108864:=hs
 refine acO _ ?_
 unfold Na
 (repeat' first|refine vs ?_|((with_reducible refine aB Ag ?_);(refine aT (abA _ hs _ _ _ ah) ?_;rintro _ _ ⟨e_,_,_,_⟩;have n_:=e_.1;(try simp only[aO,aV] at n_)))|fail)
 exact⟨rfl,_,rfl,aG,_,_,rfl,⟨_,rfl,ah⟩,bJ⟩
theorem Oi (x:Trail) (hs:Sz.sz x≤67108864):dA Trail Tryz.prog wH x:=by
 rintro cs F h ⟨v0,rfl,r0⟩
 have hs:(x.spans.length+szs x.spans)≤67108864:=hs
 refine afz _ ?_
 unfold OP
 (repeat' first|refine vs ?_|((with_reducible refine aB CK ?_);(refine aT (aio _ hs _ _ _ ah) ?_;rintro _ _ ⟨e_,_,_,_⟩;have n_:=e_.1;(try simp only[aO,aV] at n_)))|fail)
 exact⟨rfl,_,rfl,aG,_,_,rfl,⟨_,rfl,ah⟩,bJ⟩
theorem Mi (xs:List Trail) (hs:xs.length+szs xs≤67108864):dZ Tryz.prog sV xs:=fun v F h r=>
 aa4 _ (SV rfl rfl (by decide) (fun x hx=>MC x (by have:=bI hx;omega)) r (by omega))
theorem agJ (xs:List Trail) (hs:xs.length+szs xs≤67108864):dZ Tryz.prog Cj xs:=fun v F h r=>
 ahw _ (JO rfl rfl (by decide) (fun x hx=>Oi x (by have:=bI hx;omega)) r (by omega))
theorem Mc (xs:List aU) (hs:xs.length+szs xs≤67108864):dZ Tryz.prog zI xs:=by
 intro v F h r
 refine aas _ ?_
 unfold Mg
 have hsm:=r.small
 refine bQ r ?_
 refine aY xs.length (fun i vs h1=>∃ u G,vs=[u,.int .i64 (i:Int)]∧i≤xs.length∧Ext h h1∧au h1 u (xs.take i) G∧Own h.n h1 G) ⟨.aF,[],rfl,Nat.zero_le _,Ext.refl _,au.aF,Own.nil⟩ ?_
 rintro i vs h1 _ ⟨u,G,rfl,hi,e1,ru,ou⟩
 have n1:=e1.1
 simp only[g0,g1]
 refine br (fun hlt=>?_) (fun hge=>?_)
 ·obtain⟨x,hx,-,htk⟩:=aR (show i < xs.length by omega)
  have hm:=bI (List.mem_of_getElem? hx)
  have hx2:Sz.sz x=x.l.length+szs x.l:=rfl
  refine vs ?_
  refine bS r hx rfl ?_
  rintro b o _ Fi a ⟨v0,rfl,r0⟩ _
  (repeat' first|refine vs ?_|((with_reducible refine aB sV ?_);(refine aT (Mi x.l (by omega) _ _ _ ah) ?_;rintro w2 h2 ⟨e2,G2,q2,o2⟩;have n2:=e2.1;(try simp only[aO,aV] at n2)))|fail)
  have hlen:(xs.take i).length=i:=by rw[List.length_take];omega
  refine app1 (n:=h.n) (xs:=xs.take i) (Fx:=G) (a:=x) ah ⟨_,rfl,q2⟩ (fA (bJ) o2 (by simp only[aO];omega) iw) aP rfl ?_ ?_ ?_
  ·rw[hlen];omega
  ·rw[hlen];omega
  intro u' h' F' ek kp r' o'
  (repeat' first|refine vs ?_|fail)
  exact⟨by omega,u',F',rfl,by omega,ek h aG (Nat.le_refl _),by rw[htk];exact r',o'⟩
 ·(repeat' first|refine vs ?_|fail)
  exact⟨rfl,u,rfl,e1,G,by rw[show i=xs.length by omega,List.take_length] at ru;exact ru,ou⟩
theorem Oh (xs:List aU) (hs:xs.length+szs xs≤67108864):dZ Tryz.prog Bg xs:=by
 intro v F h r
 refine afy _ ?_
 unfold OM
 have hsm:=r.small
 obtain⟨re,oe⟩:=gF (h:=h) (α:=aU) (w:=2) rfl
 refine vs ?_
 refine aY xs.length (fun i vs h1=>∃ u G,vs=[u,.int .i64 (i:Int)]∧i≤xs.length∧Ext h h1∧au h1 u (xs.take i) G∧Own h.n h1 G) ⟨_,_,rfl,Nat.zero_le _,(Ext.refl _).push _,by rw[List.take_zero];exact re,oe _ (Nat.le_refl _)⟩ ?_
 rintro i vs h1 _ ⟨u,G,rfl,hi,e1,ru,ou⟩
 have n1:=e1.1
 simp only[g0,g1]
 refine bQ r ?_
 refine br (fun hlt=>?_) (fun hge=>?_)
 ·obtain⟨x,hx,-,htk⟩:=aR (show i < xs.length by omega)
  have hm:=bI (List.mem_of_getElem? hx)
  have hx2:Sz.sz x=x.l.length+szs x.l:=rfl
  (repeat' first|refine vs ?_|((with_reducible refine aB Cj ?_);(refine aT (agJ x.l (by omega) _ _ _ ah) ?_;rintro w2 h2 ⟨e2,G2,q2,o2⟩;have n2:=e2.1;(try simp only[aO,aV] at n2)))|((with_reducible refine aC ?_);((refine ix ?_);rintro _ _ _ _ _ ⟨_,rfl,_⟩ _))|fail)
  have hlen:(xs.take i).length=i:=by rw[List.length_take];omega
  refine app1 (n:=h.n) (xs:=xs.take i) (Fx:=G) (a:=x) ah ⟨_,rfl,q2⟩ (fA (bJ) o2 (by omega) iw) aP rfl ?_ ?_ ?_
  ·rw[hlen];omega
  ·rw[hlen];omega
  intro u' h' F' ek kp r' o'
  (repeat' first|refine vs ?_|fail)
  exact⟨by omega,u',F',rfl,by omega,ek h aG (Nat.le_refl _),by rw[htk];exact r',o'⟩
 ·(repeat' first|refine vs ?_|fail)
  exact⟨rfl,u,rfl,e1,G,by rw[show i=xs.length by omega,List.take_length] at ru;exact ru,ou⟩
end Go.Proofs.YtekfdoknfcedpaaGreat
end
section
set_option linter.unusedSimpArgs false
set_option linter.unusedVariables false
set_option maxHeartbeats 1000000
namespace Go.Proofs.YtekfdoknfcedpaaGreat
open Go Go.Ab
section
def Ng (x0:AV):Prog:=Ln 0 x0 fun a=>.loop [.aF,.int .i64 0] (fun b=>Bn .lss (g b 1) a fun a=>.ite a (Ix 2 x0 (g b 1) fun a=>Ld 2 a fun a=>.op (.alloc [.int .i64 0,.aF]) fun c=>.op (.st 2 c a) fun _=>Lg 1 c fun a=>Cl sV [a] fun a=>.op (.app 4 48 (g b 0) a) fun a=>Bn .add (g b 1) (.int .i64 1) fun b=>.leaf 0 [a,b]) (.leaf 2 [g b 0,g b 1])) fun a b=>aA a 1 (.leaf 1 b) (aA a 2 (.fin [.val (g b 0)]) .bad)
theorem acT (x0:AV):CC Tryz.prog Ai [x0] (Ng x0):=cc Tryz.func157 [3,6,7,8] (fun _=>[])
def Nl (x0:AV):Prog:=Cl Ai [x0] fun a=>Ln 0 a fun b=>.loop [.int .i64 0,.int .i64 0] (fun c=>Bn .lss (g c 1) b fun b=>.ite b (Ix 4 a (g c 1) fun a=>Ld 4 a fun a=>.op (.alloc [.int .i64 0,.int .i64 0,.int .i64 0,.aF]) fun b=>.op (.st 4 b a) fun _=>Ld 4 b fun a=>Cl tY [a] fun a=>Bn .add (g c 0) a fun a=>Bn .add (g c 1) (.int .i64 1) fun b=>.leaf 0 [a,b]) (.leaf 2 [g c 0,g c 1])) fun a b=>aA a 1 (.leaf 1 b) (aA a 2 (.fin [.val (g b 0)]) .bad)
theorem acY (x0:AV):CC Tryz.prog Al [x0] (Nl x0):=cc Tryz.func201 [3,7,8,9] (fun _=>[])
def MP (x0:AV):Prog:=.loop [.int .i64 0,.int .i64 0,.tup []] (fun a=>Ln 0 x0 fun b=>Bn .lss (g a 1) b fun b=>.ite b (.loop [g a 0,.int .i64 0] (fun b=>Ix 2 x0 (g a 1) fun c=>Lg 1 c fun c=>Ln 0 c fun c=>Bn .lss (g b 1) c fun c=>.ite c (Ix 2 x0 (g a 1) fun a=>Lg 1 a fun a=>Ix 4 a (g b 1) fun a=>Ld 4 a fun a=>Cl tL [a] fun a=>Bn .add (g b 0) a fun a=>Bn .add (g b 1) (.int .i64 1) fun b=>.leaf 0 [a,b]) (.leaf 4 [g b 0,g b 1])) fun b c=>aA b 1 (.leaf 1 c) (aA b 4 (Bn .add (g a 1) (.int .i64 1) fun a=>.leaf 0 [g c 0,a,g c 1]) .bad)) (.leaf 2 [g a 0,g a 1,g a 2])) fun a b=>aA a 1 (.leaf 1 b) (aA a 2 (.fin [.val (g b 0)]) .bad)
theorem ab9 (x0:AV):CC Tryz.prog zU [x0] (MP x0):=cc Tryz.func101 [0,3,4,5] (fun _=>[])
end
def allT (l:List aU):List Trail:=l.flatMap (·.l)
theorem Fe {l:List aU} {i:Nat} {x:aU} (ht:l.take (i+1)=l.take i++[x]):allT (l.take (i+1))=allT (l.take i)++x.l:=by rw[ht];simp[allT]
theorem Kc {α:Type} [Sz α]:∀ l r:List α,szs (l++r)=szs l+szs r
 |[],r=>by simp[szs]
 |x::l,r=>by simp only[List.cons_append,szs,Kc l];omega
theorem vG:∀ l:List aU,(allT l).length+szs (allT l)≤szs l
 |[]=>by simp[allT,szs]
 |x::l=>by
  have:=vG l
  have e:allT (x::l)=x.l++allT l:=by simp[allT]
  have h2:Sz.sz x=x.l.length+szs x.l:=rfl
  rw[e,List.length_append,Kc];simp only[szs];omega
theorem MF {h:AH} {l:List aU} {v:AV} {F:List Nat} (hs:l.length+szs l≤67108864) (r:au h v l F):cZ Tryz.prog Ai [v] h (sM Trail h (allT l)):=by
 refine acT _ ?_
 unfold Ng
 have hsm:=r.small
 refine bQ r ?_
 refine aY l.length (fun i vs h1=>∃ u G,vs=[u,.int .i64 (i:Int)]∧i≤l.length∧Ext h h1∧au h1 u (allT (l.take i)) G∧Own h.n h1 G) ⟨.aF,[],rfl,Nat.zero_le _,Ext.refl _,au.aF,Own.nil⟩ ?_
 rintro i vs h1 _ ⟨u,G,rfl,hi,e1,ru,ou⟩
 have n1:=e1.1
 simp only[g0,g1]
 have hlen:=vG (l.take i)
 have hle:=gP l i
 refine br (fun hlt=>?_) (fun hge=>?_)
 ·obtain⟨x,hx,-,htk⟩:=aR (show i < l.length by omega)
  have hm:=bI (List.mem_of_getElem? hx)
  have hx2:Sz.sz x=x.l.length+szs x.l:=rfl
  refine vs ?_
  refine bS r hx rfl ?_
  rintro b o _ Fi a ⟨v0,rfl,r0⟩ _
  (repeat' first|refine vs ?_|((with_reducible refine aB sV ?_);(refine aT (Mi x.l (by omega) _ _ _ ah) ?_;rintro w2 h2 ⟨e2,G2,q2,o2⟩;have n2:=e2.1;(try simp only[aO,aV] at n2)))|fail)
  refine amX (n:=h.n) (xs:=allT (l.take i)) (ys:=x.l) (Fx:=G) (Fy:=G2) ah q2 (fA (bJ) o2 aP iw) aP rfl ?_ ?_ ?_
  ·omega
  ·omega
  intro u' h' F' ek kp r' o'
  (repeat' first|refine vs ?_|fail)
  exact⟨by omega,u',F',rfl,by omega,ek h aG (Nat.le_refl _),by rw[Fe htk];exact r',o'⟩
 ·(repeat' first|refine vs ?_|fail)
  exact⟨rfl,u,rfl,e1,G,by rw[show i=l.length by omega,List.take_length] at ru;exact ru,ou⟩
def iq (t:Trail):Int:=cB jh t.spans
theorem CG (t:Trail):0≤iq t∧iq t≤0+12 * (Sz.sz t:Nat):=by
 have h:=nu w9 t.spans
 have h2:Sz.sz t=t.spans.length+szs t.spans:=rfl
 unfold iq;omega
def held (l:List aU):Int:=cB iq (allT l)
theorem al8 (l:List aU):0≤held l∧held l≤12 * (szs l:Nat):=by
 have h:=nu CG (allT l)
 have:=vG l
 unfold held;omega
theorem Ue (l:List Trail):0≤cB iq l∧cB iq l≤12 * (szs l:Nat):=by
 have h:=nu CG l;omega
theorem abD {h:AH} {l:List aU} {v:AV} {F:List Nat} (hs:l.length+szs l≤67108864) (r:au h v l F):aN Tryz.prog Al [v] h (.int .i64 (held l)):=by
 refine reader (acY _) (by simp only[old]) ?_
 unfold Nl
 refine aT (MF hs r) ?_
 rintro w1 h1 ⟨e1,G1,q1,o1⟩
 have hall:=vG l
 refine bQ q1 ?_
 refine aY (allT l).length (fun i vs h2=>vs=[.int .i64 (cB iq ((allT l).take i)),.int .i64 (i:Int)]∧i≤(allT l).length∧Ext h1 h2) ⟨by simp[cB],Nat.zero_le _,Ext.refl _⟩ ?_
 rintro i vs h2 _ ⟨rfl,hi,e2⟩
 simp only[g0,g1]
 have hb:=Ue ((allT l).take i)
 have hle:=gP (allT l) i
 refine br (fun hlt=>?_) (fun hge=>?_)
 ·obtain⟨x,hx,-,htk⟩:=aR (show i < (allT l).length by omega)
  have hm:=bI (List.mem_of_getElem? hx)
  have hxb:=CG x
  refine vs ?_
  refine bS q1 hx rfl ?_
  rintro b o _ Fi a ⟨v0,rfl,r0⟩ _
  (repeat' first|refine vs ?_|((with_reducible refine aB tY ?_);refine aQ (Oz (by omega) ah) ?_)|fail)
  refine jl (by unfold iq at *;omega) (by unfold iq at *;omega) ?_
  (repeat' first|refine vs ?_|fail)
  exact⟨by omega,by rw[lS _ htk];rfl,by omega,aG⟩
 ·(repeat' first|refine vs ?_|fail)
  refine pi ?_ (e1.trans e2)
  rw[show i=(allT l).length by omega,List.take_length];rfl
theorem aa9 {h:AH} {l:List aU} {v:AV} {F:List Nat} (hs:l.length+szs l≤67108864) (r:au h v l F):aN Tryz.prog zU [v] h (.int .i64 (held l)):=by
 refine reader (ab9 _) (by simp only[old]) ?_
 unfold MP
 have hsm:=r.small
 refine aY l.length (fun i vs h2=>∃ z,vs=[.int .i64 (held (l.take i)),.int .i64 (i:Int),z]∧i≤l.length∧Ext h h2) ⟨_,rfl,Nat.zero_le _,Ext.refl _⟩ ?_
 rintro i vs h2 _ ⟨z,rfl,hi,e2⟩
 simp only[g0,g1]
 have hb:=al8 (l.take i)
 have hle:=gP l i
 refine bQ r ?_
 refine br (fun hlt=>?_) (fun hge=>?_)
 ·obtain⟨x,hx,-,htk⟩:=aR (show i < l.length by omega)
  have hm:=bI (List.mem_of_getElem? hx)
  have hx2:Sz.sz x=x.l.length+szs x.l:=rfl
  have hhs:held (l.take (i+1))=held (l.take i)+cB iq x.l:=by unfold held;rw[Fe htk,DC]
  refine dH ?_
  have hsx:x.l.length < 281474976710656:=by omega
  refine aY x.l.length (fun j vs h3=>vs=[.int .i64 (held (l.take i)+cB iq (x.l.take j)),.int .i64 (j:Int)]∧j≤x.l.length∧Ext h h3) ⟨by simp[cB],Nat.zero_le _,e2⟩ ?_
  rintro j vs h3 _ ⟨rfl,hj,e3⟩
  simp only[g0,g1]
  have hb2:=Ue (x.l.take j)
  have hle2:=gP x.l j
  refine bS r hx rfl ?_
  rintro b o _ Fi a ⟨v0,rfl,r0⟩ _
  refine vs ?_
  refine br (fun hlt2=>?_) (fun lF=>?_)
  ·obtain⟨y,hy,-,rZ⟩:=aR (show j < x.l.length by omega)
   have hm2:=bI (List.mem_of_getElem? hy)
   have hyb:=CG y
   (repeat' first|refine vs ?_|((with_reducible refine aB tL ?_);refine aQ (Om (by omega) ah) ?_)|((with_reducible refine aC ?_);((refine ix ?_);rintro _ _ _ _ _ ⟨_,rfl,_⟩ _))|fail)
   refine jl (by unfold iq at *;omega) (by unfold iq at *;omega) ?_
   (repeat' first|refine vs ?_|fail)
   exact⟨by omega,by rw[lS _ rZ,Int.add_assoc];rfl,by omega,aG⟩
  ·(repeat' first|refine vs ?_|fail)
   exact⟨by omega,_,by rw[hhs,show j=x.l.length by omega,List.take_length];rfl,by omega,aG⟩
 ·(repeat' first|refine vs ?_|fail)
  refine pi ?_ aG
  rw[show i=l.length by omega,List.take_length]
end Go.Proofs.YtekfdoknfcedpaaGreat
end
section
set_option linter.unusedSimpArgs false
set_option linter.unusedVariables false
set_option maxHeartbeats 1000000
namespace Go.Proofs.YtekfdoknfcedpaaGreat
open Go Go.Ab
section
def Nn (x0 x1:AV):Prog:=.op (.alloc [.int .i64 0,.int .i64 0,.int .i64 0,.aF]) fun a=>Ln 0 x0 fun b=>Bn .eql b (.int .i64 0) fun b=>.ite b (.op (.build [.int .i64 0,.int .i64 0,.int .i64 0,.aF] []) fun b=>.op (.st 4 a b) fun _=>.fin [.cn 4 a,.val (.bool false)]) (Ln 0 x0 fun b=>Cl jF [x1,b] fun b=>Ix 2 x0 b fun b=>Ld 2 b fun b=>.op (.alloc [.int .i64 0,.aF]) fun c=>.op (.st 2 c b) fun _=>Lg 1 c fun b=>Cl tV [b,x1] fun b=>Bn .lss b (.int .i64 0) fun d=>.ite d (.op (.build [.int .i64 0,.int .i64 0,.int .i64 0,.aF] []) fun b=>.op (.st 4 a b) fun _=>.fin [.cn 4 a,.val (.bool false)]) (Lg 1 c fun c=>Ix 4 c b fun b=>Ld 4 b fun b=>Cl wC [b] fun b=>.op (.st 4 a b) fun _=>.fin [.cn 4 a,.val (.bool true)]))
theorem acZ (x0 x1:AV):CC Tryz.prog Ii [x0,x1] (Nn x0 x1):=cc Tryz.func128
def MQ (x0 x1:AV):Prog:=.op (.alloc [.int .i64 0,.int .i64 0,.int .i64 0,.aF]) fun a=>Ln 0 x0 fun b=>Bn .eql b (.int .i64 0) fun b=>.ite b (.op (.build [.int .i64 0,.int .i64 0,.int .i64 0,.aF] []) fun b=>.op (.st 4 a b) fun _=>.fin [.cn 4 a,.val (.bool false)]) (Ln 0 x0 fun b=>Cl iP [x1,b] fun b=>Ix 2 x0 b fun b=>Ld 2 b fun b=>.op (.alloc [.int .i64 0,.aF]) fun c=>.op (.st 2 c b) fun _=>Lg 1 c fun b=>Cl wI [b,x1] fun b=>Bn .lss b (.int .i64 0) fun d=>.ite d (.op (.build [.int .i64 0,.int .i64 0,.int .i64 0,.aF] []) fun b=>.op (.st 4 a b) fun _=>.fin [.cn 4 a,.val (.bool false)]) (Lg 1 c fun c=>Ix 4 c b fun b=>Ld 4 b fun b=>Cl wH [b] fun b=>.op (.st 4 a b) fun _=>.fin [.cn 4 a,.val (.bool true)]))
theorem acd (x0 x1:AV):CC Tryz.prog Hy [x0,x1] (MQ x0 x1):=cc Tryz.func185
end
theorem FJ {α:Type} (p:α→Bool) (xs:List α):idx p xs= -1∨(0≤idx p xs∧(idx p xs).toNat < xs.length):=by
 rcases uG p xs with⟨e,-⟩|⟨i,x,e,hx,-,-⟩
 ·exact .inl e
 ·have:=(List.getElem?_eq_some_iff.1 hx).1
  right;omega
def KJ:Trail:=⟨0,0,0,[]⟩
def WO (α:Type) [Cel α] (h:AH) (x:α) (b:Bool):AV→AH→Prop:=fun u h'=>Ext h h'∧∃ cs F,u= .tup [.agg cs,.bool b]∧Cel.rep h' x cs F∧Own h.n h' F
def uS (x:aU) (id:Int):Option Trail:=if idx (isId id) x.l < 0 then none else x.l[(idx (isId id) x.l).toNat]?
def eB (l:List aU) (id:Int):Option Trail:=match l[(stripe id l.length).toNat]? with
 |none=>none
 |some x=>uS x id
def fO (l:List aU) (id:Int):Trail:=(eB l id).getD KJ
def iY (l:List aU) (id:Int):Bool:=(eB l id).isSome
theorem pJ {l:List aU} {id:Int} (h:eB l id=none):fO l id=KJ∧iY l id=false:=by simp[fO,iY,h]
theorem pI {l:List aU} {id:Int} {t:Trail} (h:eB l id=some t):fO l id=t∧iY l id=true:=by simp[fO,iY,h]
theorem Dh {h:AH}:Cel.rep h KJ [.int .i64 0,.int .i64 0,.int .i64 0,.aF] []:=⟨.aF,rfl,au.aF⟩
theorem abE {h:AH} {l:List aU} {v:AV} {F:List Nat} {id:Int} (hs:l.length+szs l≤67108864) (r:au h v l F):cZ Tryz.prog Ii [v,.int .i64 id] h (WO Trail h (fO l id) (iY l id)):=by
 refine acZ _ _ ?_
 unfold Nn
 have hsm:=r.small
 have hst:l.length=0∨(0≤stripe id l.length∧stripe id l.length < l.length):=by
  by_cases e:l.length=0
  ·exact .inl e
  ·exact .inr (kL (by omega))
 (repeat' first|refine vs ?_|(refine br ?_ ?_<;>first|exact bx|intro _)|((with_reducible refine aB jF ?_);refine aQ tC ?_)|((with_reducible refine aB tV ?_);refine aQ (Ow ah) ?_)|((with_reducible refine aC ?_);(((refine aL ?_;intro _ _));rintro _ _ _ _ _ ⟨_,rfl,_⟩ _))|fail)
 ·rename_i e
  have:eB l id=none:=by unfold eB;rw[List.getElem?_eq_none (by omega)]
  rw[(pJ this).1,(pJ this).2]
  exact⟨rfl,_,rfl,aG,_,[],rfl,Dh,Own.nil⟩
 ·rename_i x hx b o Fi a w hrep hsub hlt
  have:eB l id=none:=by unfold eB;rw[hx];simp only[uS];rw[if_pos hlt]
  rw[(pJ this).1,(pJ this).2]
  exact⟨rfl,_,rfl,aG,_,[],rfl,Dh,Own.nil⟩
 ·rename_i x hx b o Fi a w hrep hsub hlt
  have hb:=FJ (isId id) x.l
  have hm:=bI (List.mem_of_getElem? hx)
  have hx2:Sz.sz x=x.l.length+szs x.l:=rfl
  obtain⟨t,ht,-,-⟩:=aR (show(idx (isId id) x.l).toNat < x.l.length by omega)
  have hm2:=bI (List.mem_of_getElem? ht)
  have:eB l id=some t:=by unfold eB;rw[hx];simp only[uS];rw[if_neg hlt];exact ht
  rw[(pI this).1,(pI this).2]
  (repeat' first|refine vs ?_|((with_reducible refine aB wC ?_);(refine aT (MC t (by omega) _ _ _ ⟨_,rfl,ah⟩) ?_;rintro _ h2 ⟨e2,_,G2,rfl,⟨w2,rfl,q2⟩,o2⟩;have n2:=e2.1;(try simp only[aO,aV] at n2)))|((with_reducible refine aC ?_);((refine ixi ?_);rintro _ _ _ _ _ ⟨_,rfl,_⟩ _))|fail)
  exact⟨rfl,_,rfl,aG,_,_,rfl,⟨_,rfl,ah⟩,bJ⟩
theorem abb {h:AH} {l:List aU} {v:AV} {F:List Nat} {id:Int} (hs:l.length+szs l≤67108864) (r:au h v l F):cZ Tryz.prog Hy [v,.int .i64 id] h (WO Trail h (fO l id) (iY l id)):=by
 refine acd _ _ ?_
 unfold MQ
 have hsm:=r.small
 have hst:l.length=0∨(0≤stripe id l.length∧stripe id l.length < l.length):=by
  by_cases e:l.length=0
  ·exact .inl e
  ·exact .inr (kL (by omega))
 (repeat' first|refine vs ?_|(refine br ?_ ?_<;>first|exact bx|intro _)|((with_reducible refine aB iP ?_);refine aQ qp ?_)|((with_reducible refine aB wI ?_);refine aQ (Oj ah) ?_)|((with_reducible refine aC ?_);(((refine aL ?_;intro _ _));rintro _ _ _ _ _ ⟨_,rfl,_⟩ _))|fail)
 ·rename_i e
  have:eB l id=none:=by unfold eB;rw[List.getElem?_eq_none (by omega)]
  rw[(pJ this).1,(pJ this).2]
  exact⟨rfl,_,rfl,aG,_,[],rfl,Dh,Own.nil⟩
 ·rename_i x hx b o Fi a w hrep hsub hlt
  have:eB l id=none:=by unfold eB;rw[hx];simp only[uS];rw[if_pos hlt]
  rw[(pJ this).1,(pJ this).2]
  exact⟨rfl,_,rfl,aG,_,[],rfl,Dh,Own.nil⟩
 ·rename_i x hx b o Fi a w hrep hsub hlt
  have hb:=FJ (isId id) x.l
  have hm:=bI (List.mem_of_getElem? hx)
  have hx2:Sz.sz x=x.l.length+szs x.l:=rfl
  obtain⟨t,ht,-,-⟩:=aR (show(idx (isId id) x.l).toNat < x.l.length by omega)
  have hm2:=bI (List.mem_of_getElem? ht)
  have:eB l id=some t:=by unfold eB;rw[hx];simp only[uS];rw[if_neg hlt];exact ht
  rw[(pI this).1,(pI this).2]
  (repeat' first|refine vs ?_|((with_reducible refine aB wH ?_);(refine aT (Oi t (by omega) _ _ _ ⟨_,rfl,ah⟩) ?_;rintro _ h2 ⟨e2,_,G2,rfl,⟨w2,rfl,q2⟩,o2⟩;have n2:=e2.1;(try simp only[aO,aV] at n2)))|((with_reducible refine aC ?_);((refine ixi ?_);rintro _ _ _ _ _ ⟨_,rfl,_⟩ _))|fail)
  exact⟨rfl,_,rfl,aG,_,_,rfl,⟨_,rfl,ah⟩,bJ⟩
def older (a b:Trail):Prop:=a.first < b.first∨(a.first=b.first∧a.stamp < b.stamp)
noncomputable def ak8 (b:Option Trail) (t:Trail):Option Trail:=match b with
 |none=>some t
 |some b=>if bp (older t b)=true then some t else some b
noncomputable def oldest (l:List Trail):Option Trail:=l.foldl ak8 none
end Go.Proofs.YtekfdoknfcedpaaGreat
end
section
set_option linter.unusedSimpArgs false
set_option linter.unusedVariables false
set_option maxHeartbeats 1000000
namespace Go.Proofs.YtekfdoknfcedpaaGreat
open Go Go.Ab
section
def ZR (x0 x1 x2:AV):Prog:=Ln 0 x0 fun a=>.op (.vW x0 (some x1) (some x2) a) fun _=>Bn .eql x1 x2 fun a=>.ite a (.fin [.val x0]) (Ln 0 x0 fun a=>.op (.slc 4 x0 none (some x1) none) fun b=>.op (.slc 4 x0 (some x2) none none) fun c=>.op (.app 4 48 b c) fun b=>Ln 0 b fun c=>.op (.slc 4 b (some c) (some a) none) fun a=>.op (.clr 4 [.int .i64 0,.int .i64 0,.int .i64 0,.aF] a) fun _=>.fin [.val b])
theorem ZT (x0 x1 x2:AV):CC Tryz.prog GL [x0,x1,x2] (ZR x0 x1 x2):=cc Tryz.func291 [] (fun r=>if r=5 then[(0,[]),(1,[]),(2,[]),(3,[]),(4,[]),(5,[]),(6,[]),(7,[])] else[])
def Np (x0 x1:AV):Prog:=Cl zI [x0] fun a=>Ln 0 x0 fun b=>Bn .gtr b (.int .i64 0) fun b=>.scope (.ite b (Ln 0 x0 fun b=>Cl jF [x1,b] fun b=>Ix 2 a b fun a=>Lf 1 a fun b=>Cl tV [b,x1] fun b=>Bn .geq b (.int .i64 0) fun c=>.scope (.ite c (Lf 1 a fun c=>Bn .add b (.int .i64 1) fun d=>Cl GL [c,b,d] fun b=>Sf 1 a b fun _=>.leaf 0 []) (.leaf 0 [])) (fun _=>.leaf 0 []) fun a b=>aA a 1 (.leaf 1 b) .bad) (.leaf 0 [])) (fun _=>.fin [.val a]) fun a b=>aA a 1 (.leaf 1 b) .bad
theorem ac0 (x0 x1:AV):CC Tryz.prog Ij [x0,x1] (Np x0 x1):=cc Tryz.func221 [5] (fun _=>[])
def MR (x0 x1:AV):Prog:=Cl Bg [x0] fun a=>Ln 0 x0 fun b=>Bn .eql b (.int .i64 0) fun b=>.ite b (.fin [.val a]) (Ln 0 x0 fun b=>Cl iP [x1,b] fun b=>Ix 2 x0 b fun c=>Lg 1 c fun c=>Cl wI [c,x1] fun c=>Bn .geq c (.int .i64 0) fun d=>.scope (.ite d (Ix 2 a b fun d=>Lg 1 d fun d=>.op (.slc 4 d none (some c) none) fun d=>Ix 2 a b fun e=>Lg 1 e fun e=>Bn .add c (.int .i64 1) fun c=>.op (.slc 4 e (some c) none none) fun c=>.op (.app 4 48 d c) fun c=>Ix 2 a b fun a=>Sg 1 a c fun _=>.leaf 0 []) (.leaf 0 [])) (fun _=>.fin [.val a]) fun a b=>aA a 1 (.leaf 1 b) .bad)
theorem ace (x0 x1:AV):CC Tryz.prog Hz [x0,x1] (MR x0 x1):=cc Tryz.func263 [5] (fun r=>if r=7 then[(0,[]),(1,[]),(2,[]),(3,[]),(4,[]),(5,[]),(6,[]),(7,[]),(8,[]),(9,[]),(10,[]),(11,[]),(12,[]),(13,[]),(14,[]),(15,[]),(16,[]),(17,[]),(18,[]),(19,[]),(20,[])] else[])
end
theorem ZP {h:AH} {xs:List Trail} {v:AV} {F:List Nat} {i n:Nat} (r:au h v xs F) (o:Own n h F) (hi:i < xs.length):
  cZ Tryz.prog GL [v,.int .i64 (i:Int),.int .i64 ((i+1:Nat):Int)] h fun u h'=>Kp h h' F∧∃ F',au h' u (xs.eraseIdx i) F'∧Own n h' F'∧∀ c∈F',c∈F:=
 ZT _ _ _ (Prog.iy _ (akK (w:=4) rfl rfl r o hi) fun _ _ _ x=>x)
noncomputable def eU (l:List aU) (id:Int):List aU:=match l[(stripe id l.length).toNat]? with
 |none=>l
 |some x=>if idx (isId id) x.l < 0 then l else l.set (stripe id l.length).toNat {x with l:=x.l.eraseIdx (idx (isId id) x.l).toNat}
theorem Tj {l:List aU} {id:Int} (h:l.length=0):eU l id=l:=by
 unfold eU;rw[List.getElem?_eq_none (by omega)]
theorem Km {l:List aU} {id:Int} {x:aU} (hx:l[(stripe id l.length).toNat]? =some x) (h:idx (isId id) x.l < 0):eU l id=l:=by
 unfold eU;rw[hx];simp only;rw[if_pos h]
theorem DW {l:List aU} {id:Int} {x:aU} (hx:l[(stripe id l.length).toNat]? =some x) (h: ¬ idx (isId id) x.l < 0):eU l id=l.set (stripe id l.length).toNat {x with l:=x.l.eraseIdx (idx (isId id) x.l).toNat}:=by
 unfold eU;rw[hx];simp only;rw[if_neg h]
section
variable{P:Program} {h:AH} {Q:Nat→List AV→AH→Prop} {k:AV→Prog}
theorem aZ {b o:Nat} (hk:(k (.ptr b o)).awp P h Q):(Prog.op (.dL (.ptr b o)) k).awp P h Q:=hk
end
theorem Ur {n:Nat} {h h':AH} {b:Nat} {F1 Fi Fi' F2:List Nat} (o:Own n h (b::(F1++(Fi++F2)))) (o':Own n h' Fi') (hs:∀ c∈Fi',c∈Fi) (hk:∀ c∈b::(F1++F2),(h'.get c).st=(h.get c).st):Own n h' (b::(F1++(Fi'++F2))):=by
 have hnd:=List.nodup_cons.1 o.1
 have lD:=List.nodup_append.1 hnd.2
 have mE:=List.nodup_append.1 lD.2.1
 refine⟨List.nodup_cons.2 ⟨fun hc=>hnd.1 ?_,List.nodup_append.2 ⟨lD.1,List.nodup_append.2 ⟨o'.1,mE.2.1,fun a ha c hc e=>mE.2.2 a (hs a ha) c hc e⟩,fun a ha c hc e=>lD.2.2 a ha c ?_ e⟩⟩,fun c hc=>?_⟩
 ·simp only[List.mem_append] at hc ⊢
  rcases hc with hc|hc|hc
  ·exact .inl hc
  ·exact .inr (.inl (hs _ hc))
  ·exact .inr (.inr hc)
 ·rcases List.mem_append.1 hc with hc|hc
  ·exact List.mem_append_left _ (hs c hc)
  ·exact List.mem_append_right _ hc
 ·have hc2:c∈b::(F1++F2)∨c∈Fi':=by
   simp only[List.mem_cons,List.mem_append] at hc ⊢
   rcases hc with hc|hc|hc|hc
   ·exact .inl (.inl hc)
   ·exact .inl (.inr (.inl hc))
   ·exact .inr hc
   ·exact .inl (.inr (.inr hc))
  rcases hc2 with hc2|hc2
  ·have hm:c∈b::(F1++(Fi++F2)):=by
    simp only[List.mem_cons,List.mem_append] at hc2 ⊢
    rcases hc2 with hc|hc|hc
    ·exact .inl hc
    ·exact .inr (.inl hc)
    ·exact .inr (.inr (.inr hc))
   exact⟨(o.2 c hm).1,by rw[hk c hc2];exact(o.2 c hm).2⟩
  ·exact o'.2 c hc2
theorem abF {h:AH} {l:List aU} {v:AV} {F:List Nat} {id:Int} (hs:l.length+szs l≤67108864) (r:au h v l F):cZ Tryz.prog Ij [v,.int .i64 id] h (sM aU h (eU l id)):=by
 refine ac0 _ _ ?_
 unfold Np
 have hsm:=r.small
 refine aT (Mc l hs v F h r) ?_
 rintro w1 h1 ⟨e1,G1,q1,o1⟩
 refine bQ r ?_
 refine br (fun hgt=>?_) (fun hle=>?_)
 ·have hsb:=kL (t:=id) (n:=l.length) (by omega)
  obtain⟨x,hx,-,-⟩:=aR (show(stripe id l.length).toNat < l.length by omega)
  have hm:=bI (List.mem_of_getElem? hx)
  have hx2:Sz.sz x=x.l.length+szs x.l:=rfl
  obtain⟨b,off,A,E,R,F1,Fi,F2,rfl,rfl,hb,hl,hes,hcs,hA,⟨vL,rfl,rL⟩,back⟩:=q1.zip hx
  have hmi:(h1.get b).st=0:=(o1.2 b (by simp)).2
  have hg:h1.get b=⟨A++(x.cs vL++R),2,0⟩:=by
   have:h1.get b=⟨(h1.get b).cells,(h1.get b).es,(h1.get b).st⟩:=rfl
   rw[this,hcs,hes,hmi];rfl
  have oL:Own h.n h1 Fi:=Us o1
  have at1:At h1 b (off+(stripe id l.length).toNat * 2) (x.cs vL):=LG (es:=2) (st:=0) hb hl hcs hA
  have hbn:b ∉ F1++(Fi++F2):=(List.nodup_cons.1 o1.1).1
  refine uU (dH (bQ r (aQ tC (bq (by omega) (by omega) (aZ ?_)))))
  (repeat' first|refine vs ?_|(refine br ?_ ?_<;>first|exact bx|intro _)|((with_reducible refine aB tV ?_);refine aQ (Ow ah) ?_)|fail)
  ·rename_i hge
   have hib:=FJ (isId id) x.l
   obtain⟨i,hi⟩:∃ i:Nat,idx (isId id) x.l=i:=⟨(idx (isId id) x.l).toNat,by omega⟩
   rw[hi]
   refine aZ ?_
   (repeat' first|refine vs ?_|fail)
   refine aT (ZP rL oL (by omega)) ?_
   rintro u h2 ⟨k2,F',r2,o2,hsub⟩
   have hb2:h2.get b=h1.get b:=k2.2 b hb fun hc=>hbn (by simp[hc])
   refine aZ (rC (Fj (by rw[hb2];exact hg) hA r2.cell rfl dB ?_))
   (repeat' first|refine vs ?_|fail)
   have hd1:∀ c∈F1++F2,c ∉ Fi∧c≠b∧c < h1.n:=by
    have hnd:=List.nodup_append.1 (List.nodup_cons.1 o1.1).2
    have mE:=List.nodup_append.1 hnd.2.1
    have hlt:=q1.lt
    intro c hc
    rcases List.mem_append.1 hc with hc'|hc'
    ·exact⟨fun hf=>hnd.2.2 c hc' c (List.mem_append_left _ hf) rfl,fun e=>hbn (e▸List.mem_append_left _ hc'),hlt c (by simp[hc'])⟩
    ·exact⟨fun hf=>mE.2.2 c hf c hc' rfl,fun e=>hbn (e▸List.mem_append_right _ (List.mem_append_right _ hc')),hlt c (by simp[hc'])⟩
   have hbF:b ∉ F':=fun hc=>hbn (by simp[hsub b hc])
   refine⟨rfl,_,rfl,?_,b::(F1++(F'++F2)),?_,?_⟩
   ·refine Ext.upd (Kp.ext e1 k2 fun c hc=>(oL.2 c hc).1) (o1.2 b (by simp)).1 _
   ·rw[DW hx (by omega),show(idx (isId id) x.l).toNat=i by omega]
    refine back _ {x with l:=x.l.eraseIdx i} _ F' (by simp only[eO,if_true];rfl) (by simp only[eO,if_true];rfl) (by simp[live]) (by simpa using Nat.lt_of_lt_of_le hb k2.1) (fun c hc=>?_) ⟨u,rfl,?_⟩
    ·obtain⟨d1,d2,d3⟩:=hd1 c hc
     exact⟨by simp only[eO,d2,if_false];exact k2.2 c d3 d1,by simpa using Nat.lt_of_lt_of_le d3 k2.1⟩
    ·exact jH r2 hbF
   ·refine Ur o1 (o2.mono (Nat.le_refl _) fun c hc=>by have:c≠b:=fun e=>hbF (e▸hc);simp[this]) hsub fun c hc=>?_
    rcases List.mem_cons.1 hc with rfl|hc
    ·simp[hmi]
    ·obtain⟨d1,d2,d3⟩:=hd1 c hc
     simp only[eO,d2,if_false];rw[k2.2 c d3 d1]
  ·rename_i hlt
   exact⟨rfl,_,rfl,e1,_,by rw[Km hx (by omega)];exact q1,o1⟩
 ·(repeat' first|refine vs ?_|fail)
  exact⟨rfl,_,rfl,e1,_,by rw[Tj (by omega)];exact q1,o1⟩
theorem abd {h:AH} {l:List aU} {v:AV} {F:List Nat} {id:Int} (hs:l.length+szs l≤67108864) (r:au h v l F):cZ Tryz.prog Hz [v,.int .i64 id] h (sM aU h (eU l id)):=by
 refine ace _ _ ?_
 unfold MR
 have hsm:=r.small
 refine aT (Oh l hs v F h r) ?_
 rintro w1 h1 ⟨e1,G1,q1,o1⟩
 refine bQ r ?_
 refine br (fun h0=>?_) (fun h0=>?_)
 ·(repeat' first|refine vs ?_|fail)
  exact⟨rfl,_,rfl,e1,_,by rw[Tj (by omega)];exact q1,o1⟩
 ·have hsb:=kL (t:=id) (n:=l.length) (by omega)
  obtain⟨x,hx,-,-⟩:=aR (show(stripe id l.length).toNat < l.length by omega)
  have hm:=bI (List.mem_of_getElem? hx)
  have hx2:Sz.sz x=x.l.length+szs x.l:=rfl
  refine dw (bQ r (aQ qp (qV r (by omega) hx rfl ?_)))
  rintro b0 o0 _ Fi0 a0 ⟨v0,rfl,r0⟩ _
  refine vs ?_
  refine aQ (Oj ah) ?_
  refine br (fun hge=>?_) (fun hlt=>?_)
  ·have hib:=FJ (isId id) x.l
   obtain⟨i,hi⟩:∃ i:Nat,idx (isId id) x.l=i:=⟨(idx (isId id) x.l).toNat,by omega⟩
   have hil:i < x.l.length:=by omega
   rw[hi]
   obtain⟨b,off,A,E,R,F1,Fi,F2,rfl,rfl,hb,hl,hes,hcs,hA,⟨vL,rfl,rL⟩,back⟩:=q1.zip hx
   have hmi:(h1.get b).st=0:=(o1.2 b (by simp)).2
   have hg:h1.get b=⟨A++(x.cs vL++R),2,0⟩:=by
    have:h1.get b=⟨(h1.get b).cells,(h1.get b).es,(h1.get b).st⟩:=rfl
    rw[this,hcs,hes,hmi];rfl
   have oL:Own h.n h1 Fi:=Us o1
   have at1:At h1 b (off+(stripe id l.length).toNat * 2) (x.cs vL):=LG (es:=2) (st:=0) hb hl hcs hA
   have hbn:b ∉ F1++(Fi++F2):=(List.nodup_cons.1 o1.1).1
   obtain⟨bL,aoC,rfl,mL,esL,Xj,-,-⟩:=rL.top oL (by omega)
   refine vs ?_
   refine bq (by omega) (by omega) ?_
   refine vs ?_
   refine JV (by decide) esL mL Xj (by omega) ?_
   refine bq (by omega) (by omega) ?_
   refine vs ?_
   refine uI (by decide) esL mL Xj (by omega) ?_
   refine alp (α:=Trail) rL oL hil ?_
   intro h2 F' k2 r2 o2 hsub hn2
   have hb2:h2.get b=h1.get b:=k2.2 b hb fun hc=>hbn (by simp[hc])
   refine bq (by omega) (by omega) (rC (Fj (by rw[hb2];exact hg) hA r2.cell rfl dB ?_))
   (repeat' first|refine vs ?_|fail)
   have hd1:∀ c∈F1++F2,c ∉ Fi∧c≠b∧c < h1.n:=by
    have hnd:=List.nodup_append.1 (List.nodup_cons.1 o1.1).2
    have mE:=List.nodup_append.1 hnd.2.1
    have hlt:=q1.lt
    intro c hc
    rcases List.mem_append.1 hc with hc'|hc'
    ·exact⟨fun hf=>hnd.2.2 c hc' c (List.mem_append_left _ hf) rfl,fun e=>hbn (e▸List.mem_append_left _ hc'),hlt c (by simp[hc'])⟩
    ·exact⟨fun hf=>mE.2.2 c hf c hc' rfl,fun e=>hbn (e▸List.mem_append_right _ (List.mem_append_right _ hc')),hlt c (by simp[hc'])⟩
   have hbF:b ∉ F':=fun hc=>hbn (by simp[hsub b hc])
   refine⟨rfl,_,rfl,?_,b::(F1++(F'++F2)),?_,?_⟩
   ·refine Ext.upd (Kp.ext e1 k2 fun c hc=>(oL.2 c hc).1) (o1.2 b (by simp)).1 _
   ·rw[DW hx (by omega),show(idx (isId id) x.l).toNat=i by omega]
    refine back _ {x with l:=x.l.eraseIdx i} _ F' (by simp only[eO,if_true];rfl) (by simp only[eO,if_true];rfl) (by simp[live]) (by simpa using Nat.lt_of_lt_of_le hb k2.1) (fun c hc=>?_) ⟨_,rfl,?_⟩
    ·obtain⟨d1,d2,d3⟩:=hd1 c hc
     exact⟨by simp only[eO,d2,if_false];exact k2.2 c d3 d1,by simpa using Nat.lt_of_lt_of_le d3 k2.1⟩
    ·exact jH r2 hbF
   ·refine Ur o1 (o2.mono (Nat.le_refl _) fun c hc=>by have:c≠b:=fun e=>hbF (e▸hc);simp[this]) hsub fun c hc=>?_
    rcases List.mem_cons.1 hc with rfl|hc
    ·simp[hmi]
    ·obtain⟨d1,d2,d3⟩:=hd1 c hc
     simp only[eO,d2,if_false];rw[k2.2 c d3 d1]
  ·(repeat' first|refine vs ?_|fail)
   exact⟨rfl,_,rfl,e1,_,by rw[Km hx (by omega)];exact q1,o1⟩
end Go.Proofs.YtekfdoknfcedpaaGreat
end
section
set_option linter.unusedSimpArgs false
set_option linter.unusedVariables false
set_option maxHeartbeats 2000000
namespace Go.Proofs.YtekfdoknfcedpaaGreat
open Go Go.Ab
section
def Me (x0 x1:AV):Prog:=Ln 0 x0 fun a=>.loop [.int .i64 0] (fun b=>Bn .lss (g b 0) a fun a=>.ite a (Ix 1 x0 (g b 0) fun a=>.op (.ld1 a) fun a=>Bn .eql x1 a fun a=>.ite a (.fin [.val (g b 0)]) (Bn .add (g b 0) (.int .i64 1) fun a=>.leaf 0 [a])) (.leaf 2 [g b 0])) fun a b=>aA a 1 (.leaf 1 b) (aA a 2 (.fin [.val (.int .i64 (-1))]) .bad)
theorem aam (x0 x1:AV):CC Tryz.prog zF [x0,x1] (Me x0 x1):=cc Tryz.func316 [0,1,7,8] (fun _=>[])
def LZ (x0 x1:AV):Prog:=Cl zF [x0,x1] fun a=>Bn .geq a (.int .i64 0) fun a=>.fin [.val a]
theorem ZU (x0 x1:AV):CC Tryz.prog zC [x0,x1] (LZ x0 x1):=cc Tryz.func268
def Qq (x0 x1:AV):Prog:=.loop [.int .i64 0] (fun a=>Ln 0 x0 fun b=>Bn .lss (g a 0) b fun b=>.ite b (Ix 1 x0 (g a 0) fun b=>.op (.ld1 b) fun b=>Bn .eql b x1 fun b=>.ite b (.fin [.val (.bool true)]) (Bn .add (g a 0) (.int .i64 1) fun a=>.leaf 0 [a])) (.leaf 2 [g a 0])) fun a b=>aA a 1 (.leaf 1 b) (aA a 2 (.fin [.val (.bool false)]) .bad)
theorem ahv (x0 x1:AV):CC Tryz.prog Ci [x0,x1] (Qq x0 x1):=cc Tryz.func175 [0,1,5] (fun _=>[])
def Ni (x0:AV):Prog:=Ln 0 x0 fun a=>Cl bK [a,.int .i64 1,.int .i64 3] fun a=>.op (.una .not a) fun a=>.ite a (.fin [.val (.bool false)]) (Ln 0 x0 fun a=>.loop [.aF,.tup [],.tup [],.int .i64 0,.tup [],.tup [],.tup []] (fun b=>Bn .lss (g b 3) a fun a=>.ite a (Ix 2 x0 (g b 3) fun a=>Ld 2 a fun a=>.op (.alloc [.int .i64 0,.aF]) fun c=>.op (.st 2 c a) fun _=>Lg 0 c fun a=>Cl bK [a,.int .i64 (-1),.int .i64 4] fun a=>.op (.una .not a) fun a=>.ite a (.fin [.val (.bool false)]) (Lg 1 c fun a=>Ln 0 a fun d=>.loop [g b 0,.int .i64 0] (fun e=>Bn .lss (g e 1) d fun d=>.ite d (Ix 4 a (g e 1) fun a=>Ld 4 a fun a=>.op (.alloc [.int .i64 0,.int .i64 0,.int .i64 0,.aF]) fun d=>.op (.st 4 d a) fun _=>Ld 4 d fun a=>Cl BS [a] fun a=>.op (.una .not a) fun a=>Gf a false 0 d fun f=>.gop a false (.mv x0) fun i=>.gop a false (.len 0 i) fun i=>.gop a false (.mv (g b 3)) fun b=>.gop a false (.call jF [f,i]) fun f=>.gop a false (.bin 0 .neq f b) fun b=>Pk a (.bool true) b fun a=>.gop a false (.mv (g e 1)) fun b=>.gop a false (.bin 0 .gtr b (.int .i64 0)) fun b=>.gop a false (.mv b) fun b=>Gf b true 1 c fun c=>.gop b true (.mv (g e 1)) fun f=>.gop b true (.bin 0 .sub f (.int .i64 1)) fun f=>.gop b true (.idx 4 c f) fun c=>Gf b true 0 c fun c=>Gf b true 0 d fun f=>.gop b true (.bin 0 .geq c f) fun c=>.gop a false (.pick b c (.bool false)) fun b=>Pk a (.bool true) b fun a=>.gop a false (.mv (g e 0)) fun b=>Gf a false 1 d fun c=>.gop a false (.call zC [b,c]) fun b=>Pk a (.bool true) b fun a=>.ite a (.fin [.val (.bool false)]) (Lg 1 d fun a=>.op (.bE 1 1 [.int .i64 0] [(0,1,a)]) fun a=>.op (.app 1 8 (g e 0) a) fun a=>Bn .add (g e 1) (.int .i64 1) fun b=>.leaf 0 [a,b])) (.leaf 4 [g e 0,g e 1])) fun e f=>aA e 1 (.leaf 1 f) (aA e 4 (Bn .add (g b 3) (.int .i64 1) fun e=>.leaf 0 [g f 0,g b 3,c,e,a,d,g f 1]) .bad))) (.leaf 2 [g b 0,g b 1,g b 2,g b 3,g b 4,g b 5,g b 6])) fun a b=>aA a 1 (.leaf 1 b) (aA a 2 (.fin [.val (.bool true)]) .bad))
theorem acV (x0:AV):CC Tryz.prog Aj [x0] (Ni x0):=cc Tryz.func196 [0,3,4,5,12,13,14,24,25,26] (fun r=>if r=12 then[(0,[]),(1,[]),(2,[]),(3,[]),(4,[]),(5,[]),(6,[]),(7,[]),(9,[]),(8,[]),(10,[]),(11,[]),(12,[]),(13,[]),(14,[]),(15,[]),(16,[]),(17,[]),(18,[]),(19,[]),(20,[]),(21,[]),(22,[]),(23,[]),(24,[]),(25,[]),(26,[]),(27,[]),(28,[]),(29,[]),(30,[]),(31,[]),(32,[]),(33,[])] else[])
def ML (x0:AV):Prog:=Ln 0 x0 fun a=>Cl bP [a,.int .i64 1,.int .i64 3] fun a=>.op (.una .not a) fun a=>.ite a (.fin [.val (.bool false)]) (.op (.bE 1 0 [] []) fun a=>.loop [a,.int .i64 0,.tup []] (fun a=>Ln 0 x0 fun b=>Bn .lss (g a 1) b fun b=>.ite b (Ix 2 x0 (g a 1) fun b=>Lg 0 b fun b=>Cl bP [b,.int .i64 (-1),.int .i64 4] fun b=>.op (.una .not b) fun b=>.ite b (.fin [.val (.bool false)]) (.loop [g a 0,.int .i64 0] (fun b=>Ix 2 x0 (g a 1) fun c=>Lg 1 c fun c=>Ln 0 c fun c=>Bn .lss (g b 1) c fun c=>.ite c (Ix 2 x0 (g a 1) fun c=>Lg 1 c fun c=>Ix 4 c (g b 1) fun c=>Ld 4 c fun c=>.op (.alloc [.int .i64 0,.int .i64 0,.int .i64 0,.aF]) fun d=>.op (.st 4 d c) fun _=>Ld 4 d fun c=>Cl Bj [c] fun c=>.op (.una .not c) fun c=>Gf c false 0 d fun e=>.gop c false (.mv x0) fun f=>.gop c false (.len 0 f) fun f=>.gop c false (.mv (g a 1)) fun i=>.gop c false (.call iP [e,f]) fun e=>.gop c false (.bin 0 .neq e i) fun e=>Pk c (.bool true) e fun c=>.gop c false (.mv (g b 1)) fun e=>.gop c false (.bin 0 .gtr e (.int .i64 0)) fun e=>.gop c false (.mv e) fun e=>.gop e true (.mv x0) fun f=>.gop e true (.mv (g a 1)) fun a=>.gop e true (.idx 2 f a) fun a=>Gf e true 1 a fun a=>.gop e true (.mv (g b 1)) fun f=>.gop e true (.bin 0 .sub f (.int .i64 1)) fun f=>.gop e true (.idx 4 a f) fun a=>Gf e true 0 a fun a=>Gf e true 0 d fun f=>.gop e true (.bin 0 .geq a f) fun a=>.gop c false (.pick e a (.bool false)) fun a=>Pk c (.bool true) a fun a=>.gop a false (.mv (g b 0)) fun c=>Gf a false 1 d fun e=>.gop a false (.call Ci [c,e]) fun c=>Pk a (.bool true) c fun a=>.ite a (.fin [.val (.bool false)]) (Lg 1 d fun a=>.op (.bE 1 1 [.int .i64 0] [(0,1,a)]) fun a=>.op (.app 1 8 (g b 0) a) fun a=>Bn .add (g b 1) (.int .i64 1) fun b=>.leaf 0 [a,b])) (.leaf 4 [g b 0,g b 1])) fun b c=>aA b 1 (.leaf 1 c) (aA b 4 (Bn .add (g a 1) (.int .i64 1) fun a=>.leaf 0 [g c 0,a,g c 1]) .bad))) (.leaf 2 [g a 0,g a 1,g a 2])) fun a b=>aA a 1 (.leaf 1 b) (aA a 2 (.fin [.val (.bool true)]) .bad))
theorem ab6 (x0:AV):CC Tryz.prog zT [x0] (ML x0):=cc Tryz.func98 [0,3,4,5] (fun r=>if r=13 then[(0,[]),(1,[]),(2,[]),(3,[]),(4,[]),(5,[]),(6,[]),(7,[]),(9,[]),(8,[]),(10,[]),(11,[]),(12,[]),(13,[]),(14,[]),(15,[]),(16,[]),(17,[]),(18,[]),(19,[]),(20,[]),(21,[]),(22,[]),(23,[]),(24,[]),(25,[]),(26,[]),(27,[]),(28,[]),(29,[]),(30,[]),(31,[]),(32,[]),(33,[]),(34,[]),(35,[]),(36,[])] else[])
end
theorem Z9 {h:AH} {xs:List Int} {v:AV} {F:List Nat} {n:Int} (r:au h v xs F):aN Tryz.prog zF [v,.int .i64 n] h (.int .i64 (idx (fun y=>decide (n=y)) xs)):=by
 refine reader (aam _ _) (by simp only[old]) ?_
 unfold Me
 have hsm:=r.small
 refine bQ r ?_
 refine aY xs.length (fun i vs h1=>vs=[.int .i64 (i:Int)]∧i≤xs.length∧h1=h∧bW xs (fun _ y=>decide (n=y)=false) i) ⟨rfl,Nat.zero_le _,rfl,up0⟩ ?_
 rintro i vs h1 _ ⟨rfl,hi,rfl,hu⟩
 simp only[g0]
 refine br (fun hlt=>?_) (fun hge=>?_)
 ·obtain⟨x,hx,-,-⟩:=aR (show i < xs.length by omega)
  (repeat' first|refine vs ?_|(refine br ?_ ?_<;>first|exact bx|intro _)|((with_reducible refine aC ?_);((refine ix ?_);rintro _ _ _ _ _ ⟨rfl,rfl⟩ _))|fail)
  ·rename_i he
   exact pi (rA hx (by simp[he]) fun j y hj hy=>hu j y hj hy).symm
  ·rename_i he
   exact⟨by omega,rfl,by omega,rfl,upS hu hx (by simp[he])⟩
 ·(repeat' first|refine vs ?_|fail)
  exact pi (yE fun j y hj hy=>hu j y (by omega) hy).symm
theorem ZQ {h:AH} {xs:List Int} {v:AV} {F:List Nat} {n:Int} (r:au h v xs F):aN Tryz.prog zC [v,.int .i64 n] h (.bool (bp (n∈xs))):=by
 refine reader (ZU _ _) (by simp only[old]) ?_
 unfold LZ
 (repeat' first|refine vs ?_|(refine br ?_ ?_<;>first|exact bx|intro _)|((with_reducible refine aB zF ?_);refine aQ (Z9 ah) ?_)|fail)
 ·rename_i hge
  rcases uG (fun y=>decide (n=y)) xs with⟨e,-⟩|⟨i,x,e,hx,hp,-⟩
  ·omega
  ·exact pt (by simp at hp;subst hp;exact List.mem_of_getElem? hx)
 ·rename_i hlt
  rcases uG (fun y=>decide (n=y)) xs with⟨e,hf⟩|⟨i,x,e,hx,hp,-⟩
  ·refine pf fun hm=>?_
   rw[List.filter_eq_self] at hf
   have:=hf n hm;simp at this
  ·omega
theorem agI {h:AH} {xs:List Int} {v:AV} {F:List Nat} {n:Int} (r:au h v xs F):aN Tryz.prog Ci [v,.int .i64 n] h (.bool (bp (n∈xs))):=by
 refine reader (ahv _ _) (by simp only[old]) ?_
 unfold Qq
 have hsm:=r.small
 refine aY xs.length (fun i vs h1=>vs=[.int .i64 (i:Int)]∧i≤xs.length∧h1=h∧bW xs (fun _ y=>¬ y=n) i) ⟨rfl,Nat.zero_le _,rfl,up0⟩ ?_
 rintro i vs h1 _ ⟨rfl,hi,rfl,hu⟩
 simp only[g0]
 refine bQ r ?_
 refine br (fun hlt=>?_) (fun hge=>?_)
 ·obtain⟨x,hx,-,-⟩:=aR (show i < xs.length by omega)
  (repeat' first|refine vs ?_|(refine br ?_ ?_<;>first|exact bx|intro _)|((with_reducible refine aC ?_);((refine ix ?_);rintro _ _ _ _ _ ⟨rfl,rfl⟩ _))|fail)
  ·rename_i he
   exact pt (by subst he;exact List.mem_of_getElem? hx)
  ·rename_i he
   exact⟨by omega,rfl,by omega,rfl,upS hu hx he⟩
 ·(repeat' first|refine vs ?_|fail)
  rw[show i=xs.length by omega] at hu
  exact pf fun hm=>dX hu n hm rfl
def K4 (l:List aU) (i:Nat) (x:aU) (k:Nat) (t:Trail):Prop:=D9 t∧stripe t.id l.length=i∧(∀ u,0 < k→x.l[((k:Int) - 1).toNat]? =some u→¬ t.id≤u.id)∧t.stamp ∉ (allT (l.take i)++x.l.take k).map (·.stamp)
def KM (l:List aU) (i:Nat) (x:aU):Prop:=(-1≤x.held∧x.held≤4)∧∀ k t,x.l[k]? =some t→K4 l i x k t
def xH (l:List aU):Prop:=(1≤(l.length:Int)∧(l.length:Int)≤3)∧∀ i x,l[i]? =some x→KM l i x
def stamps (l:List aU) (i:Nat) (x:aU) (k:Nat):List Int:=(allT (l.take i)++x.l.take k).map (·.stamp)
theorem Tv {l:List aU} {i:Nat} {x:aU} {k:Nat} {t:Trail} (ht:x.l.take (k+1)=x.l.take k++[t]):stamps l i x (k+1)=stamps l i x k++[t.stamp]:=by unfold stamps;rw[ht,←List.append_assoc,List.map_append];rfl
theorem Tw {l:List aU} {i:Nat} {x:aU} (ht:l.take (i+1)=l.take i++[x]):stamps l i x x.l.length=(allT (l.take (i+1))).map (·.stamp):=by unfold stamps;rw[Fe ht,List.take_length]
theorem Sb (l:List aU) (i:Nat) (x:aU) (k:Nat):(stamps l i x k).length≤szs (l.take i)+x.l.length:=by
 have:=vG (l.take i)
 unfold stamps;rw[List.length_map,List.length_append,List.length_take];omega
theorem abC {h:AH} {l:List aU} {v:AV} {F:List Nat} (ok:∀ x∈l,Cel.ok x) (hs:l.length+szs l≤67108864) (r:au h v l F):aN Tryz.prog Aj [v] h (.bool (bp (xH l))):=by
 refine reader (acV _) (by simp only[old]) ?_
 unfold Ni
 have hsm:=r.small
 (repeat' first|refine vs ?_|((with_reducible refine aB bK ?_);(refine cK eY ?_ ?_<;>intro hb<;>first|replace hb:=dx hb|replace hb:=dz hb))|fail)
 rotate_left
 ·exact pf (fun k=>by have:=k.1;omega)
 refine aY l.length (fun i vs h1=>∃ u G z1 z2 z4 z5 z6,vs=[u,z1,z2,.int .i64 (i:Int),z4,z5,z6]∧i≤l.length∧Ext h h1∧au h1 u ((allT (l.take i)).map (·.stamp)) G∧Own h.n h1 G∧bW l (KM l) i) ⟨.aF,[],_,_,_,_,_,rfl,Nat.zero_le _,Ext.refl _,au.aF,Own.nil,up0⟩ ?_
 rintro i vs h1 _ ⟨u,G,z1,z2,z4,z5,z6,rfl,hi,e1,ru,ou,hu⟩
 have n1:=e1.1
 simp only[g0,g3]
 refine br (fun hlt=>?_) (fun hge=>?_)
 ·obtain⟨x,hx,-,htk⟩:=aR (show i < l.length by omega)
  have hxm:=List.mem_of_getElem? hx
  have hm:=bI hxm
  have hx2:Sz.sz x=x.l.length+szs x.l:=rfl
  have okx:=ok x hxm
  refine vs ?_
  refine bS r hx rfl ?_
  rintro b o _ Fi a ⟨v0,rfl,r0⟩ _
  (repeat' first|refine vs ?_|((with_reducible refine aB bK ?_);(refine cK eY ?_ ?_<;>intro hb<;>first|replace hb:=dx hb|replace hb:=dz hb))|fail)
  rotate_left
  ·exact pf (fun k=>by have:=(k.2 i x hx).1;omega)
  have hle:=gP l i
  refine aY x.l.length (fun k vs h2=>∃ u G,vs=[u,.int .i64 (k:Int)]∧k≤x.l.length∧Ext h h2∧Bk h2 h1.n [.int .i64 x.held,v0] 0∧h1.n ∉ G∧au h2 u (stamps l i x k) G∧Own h.n h2 G∧bW x.l (K4 l i x) k) ⟨u,G,rfl,Nat.zero_le _,aG,bA,vB ru (Nat.le_refl _),by unfold stamps;rw[List.take_zero,List.append_nil];exact ah,bJ,up0⟩ ?_
  rintro k vs h2 _ ⟨u2,G2,rfl,hk,e2,bk2,nb2,ru2,ou2,hu2⟩
  have n2:=e2.1
  have nb:=bk2.1
  simp only[g0,g1]
  refine br (fun hlt2=>?_) (fun lF=>?_)
  ·obtain⟨t,ht,-,rZ⟩:=aR (show k < x.l.length by omega)
   have htm:=List.mem_of_getElem? ht
   have hm2:=bI htm
   have okt:=okx.2 t htm
   have hsl:=Sb l i x k
   (repeat' first|refine vs ?_|(refine br ?_ ?_<;>first|exact bx|intro _)|((with_reducible refine aB BS ?_);(refine aX (ae5 okt.2.2.2 (by omega) ah) ?_ ?_<;>intro hn))|((with_reducible refine aB jF ?_);refine aQ tC ?_)|((with_reducible refine aB zC ?_);(refine aX (ZQ ah) ?_ ?_<;>intro hc))|((with_reducible refine aC ?_);((first|refine ix ?_|(refine aL ?_;intro _ _));rintro _ _ _ _ _ ⟨_,rfl,_⟩ _))|fail)
   all_goals first
    |(refine pf fun k1=>?_;have k1:=(k1.2 i x hx).2 k t ht;obtain⟨a1,a2,a3,a4⟩:=k1;first|contradiction|exact a3 _ (by omega) (by assumption) (by omega))
    |skip
   all_goals
    refine lq (n:=h.n) (xs:=stamps l i x k) (Fx:=G2) (a:=t.stamp) ah ⟨rfl,rfl⟩ (by rw[List.append_nil];exact bJ) aP rfl ?_ ?_ ?_
    ·omega
    ·omega
    intro u' h' F' ek kp r' o' hF'
    (repeat' first|refine vs ?_|fail)
    refine⟨by omega,u',F',rfl,by omega,ek h aG (Nat.le_refl _),bR kp bA nb2,fun hc=>?_,by rw[Tv rZ];exact r',o',upS hu2 ht ⟨by assumption,by omega,fun u h0 hu=>?_,by assumption⟩⟩
    ·rcases hF' _ hc with hc|hc|hc
     ·exact nb2 hc
     ·cases hc
     ·simp only[aO] at hc;omega
    ·first
     |(exfalso;omega)
     |(simp_all;done)
     |(simp_all;omega)
  ·(repeat' first|refine vs ?_|fail)
   have e:k=x.l.length:=by omega
   rw[e,Tw htk] at ru2
   rw[e] at hu2
   exact⟨by omega,u2,G2,_,_,_,_,_,rfl,by omega,aG,ru2,ou2,upS hu hx ⟨by omega,fun k t ht=>iU hu2 k t ht⟩⟩
 ·(repeat' first|refine vs ?_|fail)
  rw[show i=l.length by omega] at hu
  exact pt ⟨by omega,fun i x hx=>iU hu i x hx⟩
theorem aa7 {h:AH} {l:List aU} {v:AV} {F:List Nat} (ok:∀ x∈l,Cel.ok x) (hs:l.length+szs l≤67108864) (r:au h v l F):aN Tryz.prog zT [v] h (.bool (bp (xH l))):=by
 refine reader (ab6 _) (by simp only[old]) ?_
 unfold ML
 have hsm:=r.small
 (repeat' first|refine vs ?_|((with_reducible refine aB bP ?_);(refine cK fV ?_ ?_<;>intro hb<;>first|replace hb:=dx hb|replace hb:=dz hb))|fail)
 rotate_left
 ·exact pf (fun k=>by have:=k.1;omega)
 obtain⟨re,oe⟩:=gF (h:=h) (α:=Int) (w:=1) rfl
 refine aY l.length (fun i vs h1=>∃ u G z,vs=[u,.int .i64 (i:Int),z]∧i≤l.length∧Ext h h1∧au h1 u ((allT (l.take i)).map (·.stamp)) G∧Own h.n h1 G∧bW l (KM l) i) ⟨_,_,_,rfl,Nat.zero_le _,aG,re,oe _ (Nat.le_refl _),up0⟩ ?_
 rintro i vs h1 _ ⟨u,G,z,rfl,hi,e1,ru,ou,hu⟩
 have n1:=e1.1
 simp only[g0,g1]
 refine bQ r ?_
 refine br (fun hlt=>?_) (fun hge=>?_)
 ·obtain⟨x,hx,-,htk⟩:=aR (show i < l.length by omega)
  have hxm:=List.mem_of_getElem? hx
  have hm:=bI hxm
  have hx2:Sz.sz x=x.l.length+szs x.l:=rfl
  have okx:=ok x hxm
  (repeat' first|refine vs ?_|((with_reducible refine aB bP ?_);(refine cK fV ?_ ?_<;>intro hb<;>first|replace hb:=dx hb|replace hb:=dz hb))|((with_reducible refine aC ?_);((refine ix ?_);rintro _ _ _ _ _ ⟨_,rfl,_⟩ _))|fail)
  rotate_left
  ·exact pf (fun k=>by have:=(k.2 i x hx).1;omega)
  have hle:=gP l i
  refine aY x.l.length (fun k vs h2=>∃ u G,vs=[u,.int .i64 (k:Int)]∧k≤x.l.length∧Ext h h2∧au h2 u (stamps l i x k) G∧Own h.n h2 G∧bW x.l (K4 l i x) k) ⟨u,G,rfl,Nat.zero_le _,aG,by unfold stamps;rw[List.take_zero,List.append_nil];exact ah,bJ,up0⟩ ?_
  rintro k vs h2 _ ⟨u2,G2,rfl,hk,e2,ru2,ou2,hu2⟩
  have n2:=e2.1
  simp only[g0,g1]
  refine bS r hx rfl ?_
  rintro b o _ Fi a ⟨v0,rfl,r0⟩ _
  refine vs ?_
  refine br (fun hlt2=>?_) (fun lF=>?_)
  ·obtain⟨t,ht,-,rZ⟩:=aR (show k < x.l.length by omega)
   have htm:=List.mem_of_getElem? ht
   have hm2:=bI htm
   have okt:=okx.2 t htm
   have hsl:=Sb l i x k
   (repeat' first|refine vs ?_|(refine br ?_ ?_<;>first|exact bx|intro _)|((with_reducible refine aB Bj ?_);(refine aX (aeu okt.2.2.2 (by omega) ah) ?_ ?_<;>intro hn))|((with_reducible refine aB iP ?_);refine aQ qp ?_)|((with_reducible refine aB Ci ?_);(refine aX (agI ah) ?_ ?_<;>intro hc))|((with_reducible refine aC ?_);((first|refine ix ?_|(refine aL ?_;intro _ _));rintro _ _ _ _ _ ⟨_,rfl,_⟩ _))|fail)
   all_goals first
    |(refine pf fun k1=>?_;have k1:=(k1.2 i x hx).2 k t ht;obtain⟨a1,a2,a3,a4⟩:=k1;first|contradiction|exact a3 _ (by omega) (by assumption) (by omega))
    |skip
   all_goals
    refine app1 (n:=h.n) (xs:=stamps l i x k) (Fx:=G2) (a:=t.stamp) ah ⟨rfl,rfl⟩ (by rw[List.append_nil];exact bJ) aP rfl ?_ ?_ ?_
    ·omega
    ·omega
    intro u' h' F' ek kp r' o'
    (repeat' first|refine vs ?_|fail)
    refine⟨by omega,u',F',rfl,by omega,ek h aG (Nat.le_refl _),by rw[Tv rZ];exact r',o',upS hu2 ht ⟨by assumption,by omega,fun u h0 hu=>?_,by assumption⟩⟩
    first
     |(exfalso;omega)
     |(simp_all;done)
     |(simp_all;omega)
  ·(repeat' first|refine vs ?_|fail)
   have e:k=x.l.length:=by omega
   rw[e,Tw htk] at ru2
   rw[e] at hu2
   exact⟨by omega,u2,G2,_,rfl,by omega,aG,ru2,ou2,upS hu hx ⟨by omega,fun k t ht=>iU hu2 k t ht⟩⟩
 ·(repeat' first|refine vs ?_|fail)
  rw[show i=l.length by omega] at hu
  exact pt ⟨by omega,fun i x hx=>iU hu i x hx⟩
end Go.Proofs.YtekfdoknfcedpaaGreat
end
section
set_option linter.unusedSimpArgs false
set_option linter.unusedVariables false
namespace Go.Proofs.YtekfdoknfcedpaaGreat
open Go Go.Ab
theorem R8 {α:Type} [Sz α] {y:α}:∀ {l:List α} {i:Nat} {x:α},l[i]? =some x→Sz.sz y≤Sz.sz x→szs (l.set i y)≤szs l
 |[],i,x,h,_=>by simp at h
 |a::l,0,x,h,hy=>by
  simp at h;subst h
  simp only[List.set_cons_zero,szs];omega
 |a::l,i+1,x,h,hy=>by
  simp at h
  have:=R8 (l:=l) h hy
  simp only[List.set_cons_succ,szs];omega
theorem Rk {α:Type} [Sz α]:∀ (l:List α) (i:Nat),szs (l.eraseIdx i)≤szs l
 |[],i=>by simp
 |a::l,0=>by simp only[List.eraseIdx_cons_zero,szs];omega
 |a::l,i+1=>by
  have:=Rk l i
  simp only[List.eraseIdx_cons_succ,szs];omega
theorem akI (l:List aU) (id:Int):(eU l id).length+szs (eU l id)≤l.length+szs l:=by
 rcases hx:l[(stripe id l.length).toNat]? with _|x
 ·unfold eU;rw[hx];simp only;omega
 ·by_cases e:idx (isId id) x.l < 0
  ·rw[Km hx e];omega
  ·rw[DW hx e]
   have h1:szs (l.set (stripe id l.length).toNat {x with l:=x.l.eraseIdx (idx (isId id) x.l).toNat})≤szs l:=by
    refine R8 hx ?_
    have h2:=Rk x.l (idx (isId id) x.l).toNat
    have h3:Sz.sz x=x.l.length+szs x.l:=rfl
    have h4:Sz.sz ({x with l:=x.l.eraseIdx (idx (isId id) x.l).toNat}:aU)=(x.l.eraseIdx (idx (isId id) x.l).toNat).length+szs (x.l.eraseIdx (idx (isId id) x.l).toNat):=rfl
    have h5:=List.length_eraseIdx_le x.l (idx (isId id) x.l).toNat
    omega
   simp only[List.length_set];omega
end Go.Proofs.YtekfdoknfcedpaaGreat
end
section
set_option linter.unusedSimpArgs false
set_option linter.unusedVariables false
set_option maxHeartbeats 2000000
namespace Go.Proofs.YtekfdoknfcedpaaGreat
open Go Go.Ab
section
def Nc (x0:AV):Prog:=Ln 0 x0 fun a=>.loop [.aF,.int .i64 0] (fun b=>Bn .lss (g b 1) a fun a=>.ite a (Ix 7 x0 (g b 1) fun a=>Ld 7 a fun a=>.op (.alloc gV) fun c=>.op (.st 7 c a) fun _=>.op (.fad 0 c) fun a=>.op (.ld1 a) fun d=>.op (.fad 1 c) fun c=>Ld 6 c fun c=>Cl lK [c] fun c=>.chk (.ld1 a) d (.op (.build gV [(0,1,d),(1,6,c)]) fun a=>.op (.bE 7 1 gV [(0,7,a)]) fun a=>.op (.app 7 72 (g b 0) a) fun a=>Bn .add (g b 1) (.int .i64 1) fun b=>.leaf 0 [a,b])) (.leaf 2 [g b 0,g b 1])) fun a b=>aA a 1 (.leaf 1 b) (aA a 2 (.fin [.val (g b 0)]) .bad)
theorem acR (x0:AV):CC Tryz.prog tu [x0] (Nc x0):=cc Tryz.func122 [3,6,7,8] (fun r=>if r=5 then[(0,[]),(1,[]),(2,[]),(3,[]),(4,[]),(5,[2]),(6,[]),(7,[]),(8,[]),(9,[])] else[])
def Nu (x0:AV):Prog:=.op (.bE 7 0 [] []) fun a=>.loop [a,.int .i64 0] (fun a=>Ln 0 x0 fun b=>Bn .lss (g a 1) b fun b=>.ite b (Ix 7 x0 (g a 1) fun b=>.op (.fad 0 b) fun b=>.op (.ld1 b) fun c=>Ix 7 x0 (g a 1) fun d=>.op (.fad 1 d) fun d=>Ld 6 d fun d=>Cl lN [d] fun d=>.chk (.ld1 b) c (.op (.build gV [(0,1,c),(1,6,d)]) fun b=>.op (.bE 7 1 gV [(0,7,b)]) fun b=>.op (.app 7 72 (g a 0) b) fun b=>Bn .add (g a 1) (.int .i64 1) fun a=>.leaf 0 [b,a])) (.leaf 2 [g a 0,g a 1])) fun a b=>aA a 1 (.leaf 1 b) (aA a 2 (.fin [.val (g b 0)]) .bad)
theorem adF (x0:AV):CC Tryz.prog tF [x0] (Nu x0):=cc Tryz.func94 [0,3,4] (fun r=>if r=5 then[(0,[]),(1,[]),(2,[]),(3,[]),(4,[]),(5,[]),(6,[]),(7,[]),(8,[]),(9,[]),(10,[]),(11,[5]),(12,[]),(13,[]),(14,[]),(15,[])] else[])
end
theorem Ht (xs:List Itm) (hs:xs.length+szs xs≤67108864):dZ Tryz.prog tu xs:=by
 intro v F h r
 refine acR _ ?_
 unfold Nc
 have hsm:=r.small
 refine bQ r ?_
 refine aY xs.length (fun i vs h1=>∃ u G,vs=[u,.int .i64 (i:Int)]∧i≤xs.length∧Ext h h1∧au h1 u (xs.take i) G∧Own h.n h1 G) ⟨.aF,[],rfl,Nat.zero_le _,Ext.refl _,au.aF,Own.nil⟩ ?_
 rintro i vs h1 _ ⟨u,G,rfl,hi,e1,ru,ou⟩
 have n1:=e1.1
 simp only[g0,g1]
 refine br (fun hlt=>?_) (fun hge=>?_)
 ·obtain⟨x,hx,-,htk⟩:=aR (show i < xs.length by omega)
  have hm:=bI (List.mem_of_getElem? hx)
  have hx2:Sz.sz x=Sz.sz x.s:=rfl
  refine vs ?_
  refine bS r hx rfl ?_
  rintro b o _ Fi a ⟨v0,rfl,r0⟩ _
  (repeat' first|refine vs ?_|((with_reducible refine aB lK ?_);(refine aT (wE x.s (by omega) _ _ _ ⟨_,rfl,ah⟩) ?_;rintro _ h2 ⟨e2,_,G2,rfl,⟨w2,rfl,q2⟩,o2⟩;have n2:=e2.1;(try simp only[aO,aV] at n2)))|fail)
  have hlen:(xs.take i).length=i:=by rw[List.length_take];omega
  refine app1 (n:=h.n) (xs:=xs.take i) (Fx:=G) (a:=x) ah ⟨_,rfl,q2⟩ (fA (bJ) o2 (by simp only[aO];omega) iw) aP rfl ?_ ?_ ?_
  ·rw[hlen];omega
  ·rw[hlen];omega
  intro u' h' F' ek kp r' o'
  (repeat' first|refine vs ?_|fail)
  exact⟨by omega,u',F',rfl,by omega,ek h aG (Nat.le_refl _),by rw[htk];exact r',o'⟩
 ·(repeat' first|refine vs ?_|fail)
  exact⟨rfl,u,rfl,e1,G,by rw[show i=xs.length by omega,List.take_length] at ru;exact ru,ou⟩
theorem Ik (xs:List Itm) (hs:xs.length+szs xs≤67108864):dZ Tryz.prog tF xs:=by
 intro v F h r
 refine adF _ ?_
 unfold Nu
 have hsm:=r.small
 obtain⟨re,oe⟩:=gF (h:=h) (α:=Itm) (w:=7) rfl
 refine vs ?_
 refine aY xs.length (fun i vs h1=>∃ u G,vs=[u,.int .i64 (i:Int)]∧i≤xs.length∧Ext h h1∧au h1 u (xs.take i) G∧Own h.n h1 G) ⟨_,_,rfl,Nat.zero_le _,(Ext.refl _).push _,by rw[List.take_zero];exact re,oe _ (Nat.le_refl _)⟩ ?_
 rintro i vs h1 _ ⟨u,G,rfl,hi,e1,ru,ou⟩
 have n1:=e1.1
 simp only[g0,g1]
 refine bQ r ?_
 refine br (fun hlt=>?_) (fun hge=>?_)
 ·obtain⟨x,hx,-,htk⟩:=aR (show i < xs.length by omega)
  have hm:=bI (List.mem_of_getElem? hx)
  have hx2:Sz.sz x=Sz.sz x.s:=rfl
  (repeat' first|refine vs ?_|((with_reducible refine aB lN ?_);(refine aT (wL x.s (by omega) _ _ _ ⟨_,rfl,ah⟩) ?_;rintro _ h2 ⟨e2,_,G2,rfl,⟨w2,rfl,q2⟩,o2⟩;have n2:=e2.1;(try simp only[aO,aV] at n2)))|((with_reducible refine aC ?_);((refine ix ?_);rintro _ _ _ _ _ ⟨_,rfl,_⟩ _))|fail)
  have hlen:(xs.take i).length=i:=by rw[List.length_take];omega
  refine app1 (n:=h.n) (xs:=xs.take i) (Fx:=G) (a:=x) ah ⟨_,rfl,q2⟩ (fA (bJ) o2 (by omega) iw) aP rfl ?_ ?_ ?_
  ·rw[hlen];omega
  ·rw[hlen];omega
  intro u' h' F' ek kp r' o'
  (repeat' first|refine vs ?_|fail)
  exact⟨by omega,u',F',rfl,by omega,ek h aG (Nat.le_refl _),by rw[htk];exact r',o'⟩
 ·(repeat' first|refine vs ?_|fail)
  exact⟨rfl,u,rfl,e1,G,by rw[show i=xs.length by omega,List.take_length] at ru;exact ru,ou⟩
end Go.Proofs.YtekfdoknfcedpaaGreat
end
section
set_option linter.unusedSimpArgs false
set_option linter.unusedVariables false
set_option maxHeartbeats 2000000
namespace Go.Proofs.YtekfdoknfcedpaaGreat
open Go Go.Ab
section
def Nf (x0:AV):Prog:=Ln 0 x0 fun a=>.loop [.aF,.int .i64 0] (fun b=>Bn .lss (g b 1) a fun a=>.ite a (Ix 20 x0 (g b 1) fun a=>Ld 20 a fun a=>.op (.alloc j4) fun c=>.op (.st 20 c a) fun _=>.op (.fad 2 c) fun a=>Ld 6 a fun a=>Cl lK [a] fun a=>.op (.fad 2 c) fun d=>.op (.st 6 d a) fun _=>Ld 20 c fun a=>.op (.bE 20 1 j4 [(0,20,a)]) fun a=>.op (.app 20 168 (g b 0) a) fun a=>Bn .add (g b 1) (.int .i64 1) fun b=>.leaf 0 [a,b]) (.leaf 2 [g b 0,g b 1])) fun a b=>aA a 1 (.leaf 1 b) (aA a 2 (.fin [.val (g b 0)]) .bad)
theorem acS (x0:AV):CC Tryz.prog Ig [x0] (Nf x0):=cc Tryz.func123 [3,6,7,8] (fun _=>[])
def OI (x0:AV):Prog:=.op (.box x0) fun a=>.op (.alloc j4) fun b=>.op (.fad 2 a) fun c=>Ld 6 c fun c=>Cl lN [c] fun c=>.op (.fad 2 a) fun d=>.op (.st 6 d c) fun _=>Ld 20 a fun a=>.op (.st 20 b a) fun _=>.fin [.cn 20 b]
theorem afv (x0:AV):CC Tryz.prog IQ [x0] (OI x0):=cc Tryz.func172
end
theorem abB (xs:List bN) (hs:xs.length+szs xs≤67108864):dZ Tryz.prog Ig xs:=by
 intro v F h r
 refine acS _ ?_
 unfold Nf
 have hsm:=r.small
 refine bQ r ?_
 refine aY xs.length (fun i vs h1=>∃ u G,vs=[u,.int .i64 (i:Int)]∧i≤xs.length∧Ext h h1∧au h1 u (xs.take i) G∧Own h.n h1 G) ⟨.aF,[],rfl,Nat.zero_le _,Ext.refl _,au.aF,Own.nil⟩ ?_
 rintro i vs h1 _ ⟨u,G,rfl,hi,e1,ru,ou⟩
 have n1:=e1.1
 simp only[g0,g1]
 refine br (fun hlt=>?_) (fun hge=>?_)
 ·obtain⟨x,hx,-,htk⟩:=aR (show i < xs.length by omega)
  have hm:=bI (List.mem_of_getElem? hx)
  have hx2:Sz.sz x=Sz.sz x.s:=rfl
  refine vs ?_
  refine bS r hx rfl ?_
  rintro b o _ Fi a ⟨v0,rfl,r0⟩ _
  (repeat' first|refine vs ?_|((with_reducible refine aB lK ?_);(refine aT (wE x.s (by omega) _ _ _ ⟨_,rfl,ah⟩) ?_;rintro _ h2 ⟨e2,_,G2,rfl,⟨w2,rfl,q2⟩,o2⟩;have n2:=e2.1;(try simp only[aO,aV] at n2)))|fail)
  have hlen:(xs.take i).length=i:=by rw[List.length_take];omega
  refine app1 (n:=h.n) (xs:=xs.take i) (Fx:=G) (a:=x) ah ⟨_,rfl,ah⟩ (fA (bJ) (bJ:Own (h1.n+1) _ G2) (by omega) iw) aP rfl ?_ ?_ ?_
  ·rw[hlen];omega
  ·rw[hlen];omega
  intro u' h' F' ek kp r' o'
  (repeat' first|refine vs ?_|fail)
  exact⟨by omega,u',F',rfl,by omega,ek h aG (Nat.le_refl _),by rw[htk];exact r',o'⟩
 ·(repeat' first|refine vs ?_|fail)
  exact⟨rfl,u,rfl,e1,G,by rw[show i=xs.length by omega,List.take_length] at ru;exact ru,ou⟩
theorem aeo (x:bN) (hs:Sz.sz x≤67108864):dA bN Tryz.prog IQ x:=by
 rintro cs F h ⟨v0,rfl,r0⟩
 have hx2:Sz.sz x=Sz.sz x.s:=rfl
 refine afv _ ?_
 unfold OI
 (repeat' first|refine vs ?_|((with_reducible refine aB lN ?_);(refine aT (wL x.s (by omega) _ _ _ ⟨_,rfl,ah⟩) ?_;rintro _ h2 ⟨e2,_,G2,rfl,⟨w2,rfl,q2⟩,o2⟩;have n2:=e2.1;(try simp only[aO,aV] at n2)))|fail)
 exact⟨rfl,_,rfl,aG,_,_,rfl,⟨_,rfl,ah⟩,bJ⟩
end Go.Proofs.YtekfdoknfcedpaaGreat
end
section
set_option linter.unusedSimpArgs false
set_option linter.unusedVariables false
set_option maxHeartbeats 2000000
namespace Go.Proofs.YtekfdoknfcedpaaGreat
open Go Go.Ab
section
def ahg (x0:AV):Prog:=.op (.bE 20 0 [] []) fun a=>.loop [a,.int .i64 0] (fun a=>Ln 0 x0 fun b=>Bn .lss (g a 1) b fun b=>.ite b (Ix 20 x0 (g a 1) fun b=>Ld 20 b fun b=>Cl IQ [b] fun b=>.op (.alloc j4) fun c=>.op (.st 20 c b) fun _=>Ld 20 c fun b=>.op (.bE 20 1 j4 [(0,20,b)]) fun b=>.op (.app 20 168 (g a 0) b) fun b=>Bn .add (g a 1) (.int .i64 1) fun a=>.leaf 0 [b,a]) (.leaf 2 [g a 0,g a 1])) fun a b=>aA a 1 (.leaf 1 b) (aA a 2 (.fin [.val (g b 0)]) .bad)
theorem ahu (x0:AV):CC Tryz.prog Jk [x0] (ahg x0):=cc Tryz.func96 [0,3,4] (fun _=>[])
def OJ (x0:AV):Prog:=.op (.box x0) fun a=>.op (.alloc gu) fun b=>Ld 12 a fun c=>.op (.alloc gu) fun d=>.op (.st 12 d c) fun _=>.op (.fad 2 a) fun c=>Ld 6 c fun c=>Cl lN [c] fun c=>.op (.fad 2 d) fun e=>.op (.st 6 e c) fun _=>Lg 10 a fun a=>Cl tF [a] fun a=>Sg 10 d a fun _=>Ld 12 d fun a=>.op (.st 12 b a) fun _=>.fin [.cn 12 b]
theorem afw (x0:AV):CC Tryz.prog Bf [x0] (OJ x0):=cc Tryz.func95
end
theorem agH (xs:List bN) (hs:xs.length+szs xs≤67108864):dZ Tryz.prog Jk xs:=fun v F h r=>
 ahu _ (JO rfl rfl (by decide) (fun x hx=>aeo x (by have:=bI hx;omega)) r (by omega))
theorem aep (x:Task) (hs:Sz.sz x≤67108864):dA Task Tryz.prog Bf x:=by
 rintro cs F h ⟨v0,v1,F0,F1,rfl,rfl,r0,r1⟩
 have hx2:Sz.sz x=Sz.sz x.s+(x.hand.length+szs x.hand):=rfl
 refine afw _ ?_
 unfold OJ
 (repeat' first|refine vs ?_|((with_reducible refine aB lN ?_);(refine aT (wL x.s (by omega) _ _ _ ⟨_,rfl,ah⟩) ?_;rintro _ h2 ⟨e2,_,G2,rfl,⟨w2,rfl,q2⟩,o2⟩;have n2:=e2.1;(try simp only[aO,aV] at n2)))|((with_reducible refine aB tF ?_);(refine aT (Ik x.hand (by omega) _ _ _ ah) ?_;rintro w3 h3 ⟨e3,G3,q3,o3⟩;have n3:=e3.1;(try simp only[aO,aV] at n3)))|fail)
 exact⟨rfl,_,rfl,aG,_,_,rfl,⟨_,_,_,_,rfl,rfl,ah,ah⟩,(dh bU bU iw).1⟩
end Go.Proofs.YtekfdoknfcedpaaGreat
end
