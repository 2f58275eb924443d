import Derived.Test.YtcgjihfngdhjjaaGreatDNm
import Derived.Test.YtcgjihfngdhjjaaGreatDK4
set_option linter.unusedSimpArgs false
set_option linter.unusedVariables false
section
namespace Go.Proofs.YtcgjihfngdhjjaaGreat
open Go Go.Ab
section
def RF (x0 x1 x2:AV):Prog:=Bn .geq x0 x1 fun a=>.gop a true (.mv x0) fun b=>.gop a true (.mv x2) fun c=>.gop a true (.bin 0 .leq b c) fun b=>Pk a b (.bool false) fun a=>.fin [.val a]
theorem ad7 (x0 x1 x2:AV):CC Tryz.prog bT [x0,x1,x2] (RF x0 x1 x2):=cc Tryz.func85
def SX (x0 x1 x2:AV):Prog:=Bn .geq x0 x1 fun a=>.gop a true (.mv x0) fun b=>.gop a true (.mv x2) fun c=>.gop a true (.bin 0 .leq b c) fun b=>Pk a b (.bool false) fun a=>.fin [.val a]
theorem afg (x0 x1 x2:AV):CC Tryz.prog dJ [x0,x1,x2] (SX x0 x1 x2):=cc Tryz.func90
def TN (x0:AV):Prog:=.op (.mnx false [x0,.int .i64 0]) fun a=>.op (.mnx true [a,.int .i64 2147483647]) fun a=>.fin [.val a]
theorem afW (x0:AV):CC Tryz.prog yZ [x0] (TN x0):=cc Tryz.func122
def TH (x0:AV):Prog:=Bn .lss x0 (.int .i64 0) fun a=>.ite a (.fin [.val (.int .i64 0)]) (Bn .gtr x0 (.int .i64 2147483647) fun a=>.ite a (.fin [.val (.int .i64 2147483647)]) (.fin [.val x0]))
theorem afS (x0:AV):CC Tryz.prog jH [x0] (TH x0):=cc Tryz.func292
def TP (x0 x1:AV):Prog:=Cl yZ [x0] fun a=>Cl yZ [x1] fun b=>Bn .add a b fun a=>Cl yZ [a] fun a=>.fin [.val a]
theorem afX (x0 x1:AV):CC Tryz.prog Gd [x0,x1] (TP x0 x1):=cc Tryz.func58
def TJ (x0 x1:AV):Prog:=Cl jH [x0] fun a=>Cl jH [x1] fun b=>Bn .add a b fun a=>Cl jH [a] fun a=>.fin [.val a]
theorem afT (x0 x1:AV):CC Tryz.prog yY [x0,x1] (TJ x0 x1):=cc Tryz.func284
end
def inB (a lo hi:Int):Bool:=decide (lo≤a∧a≤hi)
theorem fE {a lo hi:Int} (h:inB a lo hi=true):lo≤a∧a≤hi:=by simpa[inB] using h
theorem fG {a lo hi:Int} (h:inB a lo hi=false): ¬ (lo≤a∧a≤hi):=by simpa[inB] using h
theorem j5 {h:AH} {a lo hi:Int}:aP Tryz.prog dJ [.int .i64 a,.int .i64 lo,.int .i64 hi] h (.bool (inB a lo hi)):=by
 refine reader (afg _ _ _) (by simp only[old]) ?_
 unfold SX
 (repeat' first|refine vs ?_|(refine br ?_ ?_<;>first|exact bx|intro _)|fail)
 all_goals(refine pb ?_;simp[inB];omega)
theorem jG {h:AH} {a lo hi:Int}:aP Tryz.prog bT [.int .i64 a,.int .i64 lo,.int .i64 hi] h (.bool (inB a lo hi)):=by
 refine reader (ad7 _ _ _) (by simp only[old]) ?_
 unfold RF
 (repeat' first|refine vs ?_|(refine br ?_ ?_<;>first|exact bx|intro _)|fail)
 all_goals(refine pb ?_;simp[inB];omega)
def cap (n:Int):Int:=min (max n 0) 2147483647
theorem tT (n:Int):0≤cap n∧cap n≤2147483647:=by unfold cap;omega
theorem afz {h:AH} {a:Int}:aP Tryz.prog yZ [.int .i64 a] h (.int .i64 (cap a)):=by
 refine reader (afW _) (by simp only[old]) ?_
 unfold TN
 (repeat' first|refine vs ?_|fail)
 exact pi rfl
theorem Bt {h:AH} {a:Int}:aP Tryz.prog jH [.int .i64 a] h (.int .i64 (cap a)):=by
 refine reader (afS _) (by simp only[old]) ?_
 unfold TH
 (repeat' first|refine vs ?_|(refine br ?_ ?_<;>first|exact bx|intro _)|fail)
 all_goals(refine pi ?_;unfold cap;omega)
def cK (a b:Int):Int:=cap (cap a+cap b)
theorem afA {h:AH} {a b:Int}:aP Tryz.prog Gd [.int .i64 a,.int .i64 b] h (.int .i64 (cK a b)):=by
 refine reader (afX _ _) (by simp only[old]) ?_
 unfold TP
 have:=tT a;have:=tT b
 (repeat' first|refine vs ?_|((with_reducible refine aG yZ ?_);refine aQ afz ?_)|fail)
 exact pi rfl
theorem Tz {h:AH} {a b:Int}:aP Tryz.prog yY [.int .i64 a,.int .i64 b] h (.int .i64 (cK a b)):=by
 refine reader (afT _ _) (by simp only[old]) ?_
 unfold TJ
 have:=tT a;have:=tT b
 (repeat' first|refine vs ?_|((with_reducible refine aG jH ?_);refine aQ Bt ?_)|fail)
 exact pi rfl
end Go.Proofs.YtcgjihfngdhjjaaGreat
end
section
namespace Go.Proofs.YtcgjihfngdhjjaaGreat
open Go Go.Ab
section
def RP (x0:AV):Prog:=.loop [.int .i64 0] (fun a=>Ln 1 x0 fun b=>Bn .lss (g a 0) b fun b=>.ite b (.op (.jM x0 (g a 0)) fun b=>Bn .lss b (.int .u8 97) fun b=>.gop b false (.mv x0) fun c=>.gop b false (.mv (g a 0)) fun d=>.gop b false (.jM c d) fun c=>.gop b false (.bin 0 .gtr c (.int .u8 122)) fun c=>Pk b (.bool true) c fun b=>.ite b (.fin [.val (.bool false)]) (Bn .add (g a 0) (.int .i64 1) fun a=>.leaf 0 [a])) (.leaf 2 [g a 0])) fun a b=>aC a 1 (.leaf 1 b) (aC a 2 (Ln 1 x0 fun a=>Cl bT [a,.int .i64 1,.int .i64 8] fun a=>.fin [.val a]) .bad)
theorem aee (x0:AV):CC Tryz.prog uJ [x0] (RP x0):=cc Tryz.func254 [0,3] (fun _=>[])
def Ry (x0:AV):Prog:=.loop [.int .i64 0] (fun a=>Ln 1 x0 fun b=>Bn .lss (g a 0) b fun b=>.ite b (.op (.jM x0 (g a 0)) fun b=>Bn .lss b (.int .u8 97) fun b=>.gop b false (.mv x0) fun c=>.gop b false (.mv (g a 0)) fun d=>.gop b false (.jM c d) fun c=>.gop b false (.bin 0 .gtr c (.int .u8 122)) fun c=>Pk b (.bool true) c fun b=>.ite b (.fin [.val (.bool false)]) (Bn .add (g a 0) (.int .i64 1) fun a=>.leaf 0 [a])) (.leaf 2 [g a 0])) fun a b=>aC a 1 (.leaf 1 b) (aC a 2 (Ln 1 x0 fun a=>Cl dJ [a,.int .i64 1,.int .i64 8] fun a=>.fin [.val a]) .bad)
theorem ad2 (x0:AV):CC Tryz.prog wG [x0] (Ry x0):=cc Tryz.func264 [0,3] (fun _=>[])
def QJ (x0:AV):Prog:=.loop [.int .i64 0] (fun a=>Ln 1 x0 fun b=>Bn .lss (g a 0) b fun b=>.ite b (.op (.jM x0 (g a 0)) fun b=>.op (.conv .i64 b) fun b=>Cl bT [b,.int .i64 32,.int .i64 126] fun b=>.op (.una .not b) fun b=>.gop b false (.mv x0) fun c=>.gop b false (.mv (g a 0)) fun d=>.gop b false (.jM c d) fun c=>.gop b false (.bin 0 .eql c (.int .u8 34)) fun c=>Pk b (.bool true) c fun b=>.ite b (.fin [.val (.bool false)]) (Bn .add (g a 0) (.int .i64 1) fun a=>.leaf 0 [a])) (.leaf 2 [g a 0])) fun a b=>aC a 1 (.leaf 1 b) (aC a 2 (Ln 1 x0 fun a=>Bn .leq a (.int .i64 20) fun a=>.fin [.val a]) .bad)
theorem ac7 (x0:AV):CC Tryz.prog yI [x0] (QJ x0):=cc Tryz.func255 [0,3] (fun _=>[])
def Qs (x0:AV):Prog:=.loop [.int .i64 0] (fun a=>Ln 1 x0 fun b=>Bn .lss (g a 0) b fun b=>.ite b (.op (.jM x0 (g a 0)) fun b=>Bn .lss b (.int .u8 32) fun b=>.gop b false (.mv x0) fun c=>.gop b false (.mv (g a 0)) fun d=>.gop b false (.jM c d) fun c=>.gop b false (.bin 0 .gtr c (.int .u8 126)) fun c=>Pk b (.bool true) c fun b=>.gop b false (.mv x0) fun c=>.gop b false (.mv (g a 0)) fun d=>.gop b false (.jM c d) fun c=>.gop b false (.bin 0 .eql c (.int .u8 34)) fun c=>Pk b (.bool true) c fun b=>.ite b (.fin [.val (.bool false)]) (Bn .add (g a 0) (.int .i64 1) fun a=>.leaf 0 [a])) (.leaf 2 [g a 0])) fun a b=>aC a 1 (.leaf 1 b) (aC a 2 (Ln 1 x0 fun a=>Bn .leq a (.int .i64 20) fun a=>.fin [.val a]) .bad)
theorem acR (x0:AV):CC Tryz.prog yH [x0] (Qs x0):=cc Tryz.func265 [0,3] (fun _=>[])
def RX (x0:AV):Prog:=.op (.box x0) fun a=>Lg 1 a fun b=>.ite b (Lg 0 a fun b=>Cl uJ [b] fun b=>Gf b true 2 a fun c=>.gop b true (.call bT [c,.int .i64 0,.int .i64 2147483647]) fun c=>Pk b c (.bool false) fun b=>Gf b true 3 a fun a=>.gop b true (.bin 1 .eql a (.str ⟨#[]⟩)) fun a=>Pk b a (.bool false) fun a=>.fin [.val a]) (Lg 0 a fun b=>Cl uJ [b] fun b=>Gf b true 3 a fun c=>.gop b true (.call yI [c]) fun c=>Pk b c (.bool false) fun b=>Gf b true 2 a fun a=>.gop b true (.bin 0 .eql a (.int .i64 0)) fun a=>Pk b a (.bool false) fun a=>.fin [.val a])
theorem aei (x0:AV):CC Tryz.prog FJ [x0] (RX x0):=cc Tryz.func229
def RD (x0:AV):Prog:=.op (.box x0) fun a=>Lg 0 a fun b=>Cl wG [b] fun b=>.op (.una .not b) fun b=>.ite b (.fin [.val (.bool false)]) (Lg 1 a fun b=>.ite b (Lg 2 a fun b=>Cl dJ [b,.int .i64 0,.int .i64 2147483647] fun b=>Gf b true 3 a fun a=>.gop b true (.bin 1 .eql a (.str ⟨#[]⟩)) fun a=>Pk b a (.bool false) fun a=>.fin [.val a]) (Lg 2 a fun b=>Bn .eql b (.int .i64 0) fun b=>Gf b true 3 a fun a=>.gop b true (.call yH [a]) fun a=>Pk b a (.bool false) fun a=>.fin [.val a]))
theorem ad6 (x0:AV):CC Tryz.prog FC [x0] (RD x0):=cc Tryz.func251
def PK (x0:AV):Prog:=.op (.box x0) fun a=>Lg 1 a fun b=>.ite b (Lg 0 a fun a=>Ln 1 a fun a=>Bn .add a (.int .i64 4) fun a=>.fin [.val a]) (Lg 0 a fun b=>Ln 1 b fun b=>Lg 3 a fun a=>Ln 1 a fun a=>Bn .add b a fun a=>.fin [.val a])
theorem abS (x0:AV):CC Tryz.prog EF [x0] (PK x0):=cc Tryz.func168
def Pp (x0:AV):Prog:=.op (.box x0) fun a=>Lg 1 a fun b=>.ite b (Lg 0 a fun a=>Ln 1 a fun a=>Bn .add a (.int .i64 4) fun a=>.fin [.val a]) (Lg 0 a fun b=>Ln 1 b fun b=>Lg 3 a fun a=>Ln 1 a fun a=>Bn .add b a fun a=>.fin [.val a])
theorem abG (x0:AV):CC Tryz.prog Ew [x0] (Pp x0):=cc Tryz.func252
end
def qU (c:UInt8):Prop:=97≤(c.toNat:Int)∧(c.toNat:Int)≤122
def kN (s:ByteArray):Prop:=(∀ c∈bys s,qU c)∧1≤(s.size:Int)∧(s.size:Int)≤8
theorem Q7 {h:AH} {s:ByteArray} (hs:s.size≤maxLen):aP Tryz.prog uJ [.str s] h (.bool (bp (kN s))):=by
 refine reader (aee _) (by simp only[old]) ?_
 unfold RP
 have hs:s.size≤9223372036854775807:=hs
 have hl:=Cn s
 refine aX s.size (fun i vs h1=>vs=[.int .i64 (i:Int)]∧i≤s.size∧h1=h∧eZ (bys s) (fun _=>qU) i) ⟨rfl,Nat.zero_le _,rfl,up0⟩ ?_
 rintro i vs h1 _ ⟨rfl,hi,rfl,hu⟩
 simp only[g0]
 (repeat' first|refine vs ?_|(refine br ?_ ?_<;>first|exact bx|intro _)|((with_reducible refine aG bT ?_);refine aQ jG ?_)|(refine sx ?_;intro _ _)|fail)
 ·exact pf fun k=>nN (by assumption) (by unfold qU;omega) k.1
 ·exact pf fun k=>nN (by assumption) (by unfold qU;omega) k.1
 ·exact⟨by omega,rfl,by omega,rfl,upS hu (by assumption) (by unfold qU;omega)⟩
 ·have e:i=(bys s).length:=by omega
  rw[e] at hu
  exact pb (M6 (by simp only[inB,decide_eq_true_eq,kN];exact⟨fun k=>⟨jV hu,k⟩,fun k=>k.2⟩))
theorem Q0 {h:AH} {s:ByteArray} (hs:s.size≤maxLen):aP Tryz.prog wG [.str s] h (.bool (bp (kN s))):=by
 refine reader (ad2 _) (by simp only[old]) ?_
 unfold Ry
 have hs:s.size≤9223372036854775807:=hs
 have hl:=Cn s
 refine aX s.size (fun i vs h1=>vs=[.int .i64 (i:Int)]∧i≤s.size∧h1=h∧eZ (bys s) (fun _=>qU) i) ⟨rfl,Nat.zero_le _,rfl,up0⟩ ?_
 rintro i vs h1 _ ⟨rfl,hi,rfl,hu⟩
 simp only[g0]
 (repeat' first|refine vs ?_|(refine br ?_ ?_<;>first|exact bx|intro _)|((with_reducible refine aG dJ ?_);refine aQ j5 ?_)|(refine sx ?_;intro _ _)|fail)
 ·exact pf fun k=>nN (by assumption) (by unfold qU;omega) k.1
 ·exact pf fun k=>nN (by assumption) (by unfold qU;omega) k.1
 ·exact⟨by omega,rfl,by omega,rfl,upS hu (by assumption) (by unfold qU;omega)⟩
 ·have e:i=(bys s).length:=by omega
  rw[e] at hu
  exact pb (M6 (by simp only[inB,decide_eq_true_eq,kN];exact⟨fun k=>⟨jV hu,k⟩,fun k=>k.2⟩))
def vC (c:UInt8):Prop:=32≤(c.toNat:Int)∧(c.toNat:Int)≤126∧(c.toNat:Int)≠34
def ni (s:ByteArray):Prop:=(∀ c∈bys s,vC c)∧(s.size:Int)≤20
theorem P5 {h : AH} {s : ByteArray} (hs : s.size ≤ maxLen) : aP Tryz.prog yI [.str s] h (.bool (bp (ni s))) := by
  refine reader (ac7 _) (by simp only [old]) ?_
  unfold QJ
  have hs : s.size ≤ 9223372036854775807 := hs
  have hl := Cn s
  refine aX s.size (fun i vs h1 => vs = [.int .i64 (i : Int)] ∧ i ≤ s.size ∧ h1 = h ∧ eZ (bys s) (fun _ => vC) i) ⟨rfl, Nat.zero_le _, rfl, up0⟩ ?_
  rintro i vs h1 _ ⟨rfl, hi, rfl, hu⟩
  simp only [g0]
  (repeat' first|refine vs ?_|(refine br ?_ ?_<;>first|exact bx|intro _)|((with_reducible refine aG bT ?_);(refine dS jG ?_ ?_ <;> intro hb <;> first|replace hb := fE hb|replace hb := fG hb))|(refine sx ?_;intro _ _)|fail)
  all_goals first
    | exact pf fun k => nN (by assumption) (by unfold vC; omega) k.1
    | exact ⟨by omega, rfl, by omega, rfl, upS hu (by assumption) (by unfold vC; omega)⟩
    | (have e : i = (bys s).length := by omega
       rw [e] at hu
       first|exact pt ⟨jV hu, by omega⟩|exact pf fun k => by have := k.2; omega)
theorem PV {h : AH} {s : ByteArray} (hs : s.size ≤ maxLen) : aP Tryz.prog yH [.str s] h (.bool (bp (ni s))) := by
  refine reader (acR _) (by simp only [old]) ?_
  unfold Qs
  have hs : s.size ≤ 9223372036854775807 := hs
  have hl := Cn s
  refine aX s.size (fun i vs h1 => vs = [.int .i64 (i : Int)] ∧ i ≤ s.size ∧ h1 = h ∧ eZ (bys s) (fun _ => vC) i) ⟨rfl, Nat.zero_le _, rfl, up0⟩ ?_
  rintro i vs h1 _ ⟨rfl, hi, rfl, hu⟩
  simp only [g0]
  (repeat' first|refine vs ?_|(refine br ?_ ?_<;>first|exact bx|intro _)|(refine sx ?_;intro _ _)|fail)
  all_goals first
    | exact pf fun k => nN (by assumption) (by unfold vC; omega) k.1
    | exact ⟨by omega, rfl, by omega, rfl, upS hu (by assumption) (by unfold vC; omega)⟩
    | (have e : i = (bys s).length := by omega
       rw [e] at hu
       first|exact pt ⟨jV hu, by omega⟩|exact pf fun k => by have := k.2; omega)
def empty:ByteArray:=⟨#[]⟩
def pJ (a:Attr):Prop:=kN a.key∧((a.num=true∧(0≤a.n∧a.n≤2147483647)∧a.text=empty)∨(a.num=false∧a.n=0∧ni a.text))
theorem adC {h:AH} {a:Attr} (ok:Cel.ok a):aP Tryz.prog FJ [.agg a.cs] h (.bool (bp (pJ a))):=by
 refine reader (aei _) (by simp only[old]) ?_
 unfold RX
 obtain⟨k1,k2,k3⟩:=ok
 have k1:a.key.size≤maxLen:=k1
 have k3:a.text.size≤maxLen:=k3
 (repeat' first|refine vs ?_|(refine br ?_ ?_<;>first|exact bx|intro _)|((with_reducible refine aG uJ ?_);(refine bC (Q7 k1) ?_ ?_<;>intro hn))|((with_reducible refine aG yI ?_);(refine bC (P5 k3) ?_ ?_<;>intro hp))|((with_reducible refine aG bT ?_);(refine dS jG ?_ ?_<;>intro hb<;>first|replace hb:=fE hb|replace hb:=fG hb))|fail)
 all_goals first
  |(refine pt ?_;unfold pJ;simp_all [empty];done)
  |(refine pf ?_;unfold pJ;simp_all [empty];done)
  |(refine pf ?_;unfold pJ;simp_all [empty];intros;omega)
theorem adw {h:AH} {a:Attr} (ok:Cel.ok a):aP Tryz.prog FC [.agg a.cs] h (.bool (bp (pJ a))):=by
 refine reader (ad6 _) (by simp only[old]) ?_
 unfold RD
 obtain⟨k1,k2,k3⟩:=ok
 have k1:a.key.size≤maxLen:=k1
 have k3:a.text.size≤maxLen:=k3
 (repeat' first|refine vs ?_|(refine br ?_ ?_<;>first|exact bx|intro _)|((with_reducible refine aG wG ?_);(refine bC (Q0 k1) ?_ ?_<;>intro hn))|((with_reducible refine aG yH ?_);(refine bC (PV k3) ?_ ?_<;>intro hp))|((with_reducible refine aG dJ ?_);(refine dS j5 ?_ ?_<;>intro hb<;>first|replace hb:=fE hb|replace hb:=fG hb))|fail)
 all_goals first
  |(refine pt ?_;unfold pJ;simp_all [empty];done)
  |(refine pf ?_;unfold pJ;simp_all [empty];done)
  |(refine pf ?_;unfold pJ;simp_all [empty];intros;omega)
def oI (a:Attr):Int:=if a.num=true then a.key.size+4 else a.key.size+a.text.size
theorem abp {h:AH} {a:Attr} (hs:Sz.sz a≤67108864):aP Tryz.prog EF [.agg a.cs] h (.int .i64 (oI a)):=by
 refine reader (abS _) (by simp only[old]) ?_
 unfold PK
 have hs:a.key.size+a.text.size≤67108864:=hs
 (repeat' first|refine vs ?_|(refine br ?_ ?_<;>first|exact bx|intro _)|fail)
 all_goals exact pi (by simp[oI, *])
theorem abg {h:AH} {a:Attr} (hs:Sz.sz a≤67108864):aP Tryz.prog Ew [.agg a.cs] h (.int .i64 (oI a)):=by
 refine reader (abG _) (by simp only[old]) ?_
 unfold Pp
 have hs:a.key.size+a.text.size≤67108864:=hs
 (repeat' first|refine vs ?_|(refine br ?_ ?_<;>first|exact bx|intro _)|fail)
 all_goals exact pi (by simp[oI, *])
end Go.Proofs.YtcgjihfngdhjjaaGreat
end
section
namespace Go.Proofs.YtcgjihfngdhjjaaGreat
open Go Go.Ab
section
def QN (x0:AV):Prog:=Ln 0 x0 fun a=>.loop [.int .i64 0] (fun b=>Bn .lss (g b 0) a fun a=>.ite a (Ix 4 x0 (g b 0) fun a=>Ld 4 a fun a=>.op (.alloc [.str ⟨#[]⟩,.bool false,.int .i64 0,.str ⟨#[]⟩]) fun c=>.op (.st 4 c a) fun _=>Ld 4 c fun a=>Cl FJ [a] fun a=>.op (.una .not a) fun a=>.gop a false (.mv (g b 0)) fun d=>.gop a false (.bin 0 .gtr d (.int .i64 0)) fun d=>.gop a false (.mv d) fun d=>.gop d true (.mv x0) fun e=>.gop d true (.mv (g b 0)) fun f=>.gop d true (.bin 0 .sub f (.int .i64 1)) fun f=>.gop d true (.idx 4 e f) fun e=>Gf d true 0 e fun e=>Gf d true 0 c fun c=>.gop d true (.bin 1 .geq e c) fun c=>.gop a false (.pick d c (.bool false)) fun c=>Pk a (.bool true) c fun a=>.ite a (.fin [.val (.bool false)]) (Bn .add (g b 0) (.int .i64 1) fun a=>.leaf 0 [a])) (.leaf 2 [g b 0])) fun a b=>aC a 1 (.leaf 1 b) (aC a 2 (Ln 0 x0 fun a=>Bn .leq a (.int .i64 4) fun a=>.fin [.val a]) .bad)
theorem adb (x0:AV):CC Tryz.prog Fe [x0] (QN x0):=cc Tryz.func167 [0,5,6,7] (fun r=>if r=4 then[(0,[]),(1,[]),(2,[]),(3,[]),(4,[]),(5,[]),(6,[]),(7,[]),(8,[]),(9,[]),(10,[]),(11,[]),(12,[]),(13,[]),(14,[]),(15,[]),(16,[]),(17,[])] else[])
def Qw (x0:AV):Prog:=.loop [.int .i64 0] (fun a=>Ln 0 x0 fun b=>Bn .lss (g a 0) b fun b=>.ite b (Ix 4 x0 (g a 0) fun b=>Ld 4 b fun b=>Cl FC [b] fun b=>.op (.una .not b) fun b=>.gop b false (.mv (g a 0)) fun c=>.gop b false (.bin 0 .gtr c (.int .i64 0)) fun c=>.gop b false (.mv c) fun c=>.gop c true (.mv x0) fun d=>.gop c true (.mv (g a 0)) fun e=>.gop c true (.bin 0 .sub e (.int .i64 1)) fun e=>.gop c true (.idx 4 d e) fun d=>Gf c true 0 d fun d=>.gop c true (.mv x0) fun e=>.gop c true (.mv (g a 0)) fun f=>.gop c true (.idx 4 e f) fun e=>Gf c true 0 e fun e=>.gop c true (.bin 1 .geq d e) fun d=>.gop b false (.pick c d (.bool false)) fun c=>Pk b (.bool true) c fun b=>.ite b (.fin [.val (.bool false)]) (Bn .add (g a 0) (.int .i64 1) fun a=>.leaf 0 [a])) (.leaf 2 [g a 0])) fun a b=>aC a 1 (.leaf 1 b) (aC a 2 (Ln 0 x0 fun a=>Bn .leq a (.int .i64 4) fun a=>.fin [.val a]) .bad)
theorem acV (x0:AV):CC Tryz.prog ES [x0] (Qw x0):=cc Tryz.func215 [0,3] (fun r=>if r=4 then[(0,[]),(1,[]),(2,[]),(3,[]),(4,[]),(5,[]),(6,[]),(7,[]),(8,[]),(9,[]),(10,[]),(11,[]),(12,[]),(13,[]),(14,[]),(15,[]),(16,[]),(17,[]),(18,[]),(19,[]),(20,[]),(21,[]),(22,[]),(23,[])] else[])
def RO (x0:AV):Prog:=.op (.box x0) fun a=>Lg 5 a fun a=>Ln 0 a fun b=>.loop [.int .i64 12,.int .i64 0] (fun c=>Bn .lss (g c 1) b fun b=>.ite b (Ix 4 a (g c 1) fun a=>Ld 4 a fun a=>.op (.alloc [.str ⟨#[]⟩,.bool false,.int .i64 0,.str ⟨#[]⟩]) fun b=>.op (.st 4 b a) fun _=>Ld 4 b fun a=>Cl EF [a] fun a=>Bn .add (g c 0) a fun a=>Bn .add (g c 1) (.int .i64 1) fun b=>.leaf 0 [a,b]) (.leaf 2 [g c 0,g c 1])) fun a b=>aC a 1 (.leaf 1 b) (aC a 2 (.fin [.val (g b 0)]) .bad)
theorem aed (x0:AV):CC Tryz.prog yP [x0] (RO x0):=cc Tryz.func97 [3,7,8,9] (fun _=>[])
def Rw (x0:AV):Prog:=.op (.box x0) fun a=>.loop [.int .i64 12,.int .i64 0] (fun b=>Lg 5 a fun c=>Ln 0 c fun c=>Bn .lss (g b 1) c fun c=>.ite c (Lg 5 a fun a=>Ix 4 a (g b 1) fun a=>Ld 4 a fun a=>Cl Ew [a] fun a=>Bn .add (g b 0) a fun a=>Bn .add (g b 1) (.int .i64 1) fun b=>.leaf 0 [a,b]) (.leaf 2 [g b 0,g b 1])) fun a b=>aC a 1 (.leaf 1 b) (aC a 2 (.fin [.val (g b 0)]) .bad)
theorem adZ (x0:AV):CC Tryz.prog jO [x0] (Rw x0):=cc Tryz.func216 [1,3,4] (fun _=>[])
def RN (x0:AV):Prog:=.op (.box x0) fun a=>Lg 0 a fun b=>Cl bT [b,.int .i64 1,.int .i64 999] fun b=>Gf b true 1 a fun c=>.gop b true (.call bT [c,.int .i64 1,.int .i64 999]) fun c=>Pk b c (.bool false) fun b=>Gf b true 3 a fun c=>.gop b true (.call bT [c,.int .i64 0,.int .i64 99999]) fun c=>Pk b c (.bool false) fun b=>Gf b true 2 a fun c=>Gf b true 3 a fun d=>.gop b true (.call bT [c,.int .i64 0,d]) fun c=>Pk b c (.bool false) fun b=>Gf b true 5 a fun c=>.gop b true (.call Fe [c]) fun c=>Pk b c (.bool false) fun b=>.gop b true (.ldn 6 a) fun a=>.gop b true (.call yP [a]) fun a=>.gop b true (.bin 0 .leq a (.int .i64 96)) fun a=>Pk b a (.bool false) fun a=>.fin [.val a]
theorem aec (x0:AV):CC Tryz.prog uI [x0] (RN x0):=cc Tryz.func96
def Rv (x0:AV):Prog:=.op (.box x0) fun a=>Lg 0 a fun b=>Cl dJ [b,.int .i64 1,.int .i64 999] fun b=>Gf b true 1 a fun c=>.gop b true (.call dJ [c,.int .i64 1,.int .i64 999]) fun c=>Pk b c (.bool false) fun b=>Gf b true 2 a fun c=>.gop b true (.call dJ [c,.int .i64 0,.int .i64 99999]) fun c=>Pk b c (.bool false) fun b=>Gf b true 3 a fun c=>Gf b true 2 a fun d=>.gop b true (.call dJ [c,d,.int .i64 99999]) fun c=>Pk b c (.bool false) fun b=>Gf b true 5 a fun c=>.gop b true (.call ES [c]) fun c=>Pk b c (.bool false) fun b=>.gop b true (.ldn 6 a) fun a=>.gop b true (.call jO [a]) fun a=>.gop b true (.bin 0 .leq a (.int .i64 96)) fun a=>Pk b a (.bool false) fun a=>.fin [.val a]
theorem adY (x0:AV):CC Tryz.prog Fw [x0] (Rv x0):=cc Tryz.func140
def QI (x0:AV):Prog:=Ln 0 x0 fun a=>.loop [.int .i64 0,.int .i64 0] (fun b=>Bn .lss (g b 1) a fun a=>.ite a (Ix 6 x0 (g b 1) fun a=>Ld 6 a fun a=>.op (.alloc jT) fun c=>.op (.st 6 c a) fun _=>Ld 6 c fun a=>Cl yP [a] fun a=>Bn .add (g b 0) a fun a=>Bn .add (g b 1) (.int .i64 1) fun b=>.leaf 0 [a,b]) (.leaf 2 [g b 0,g b 1])) fun a b=>aC a 1 (.leaf 1 b) (aC a 2 (.fin [.val (g b 0)]) .bad)
theorem ac6 (x0:AV):CC Tryz.prog EZ [x0] (QI x0):=cc Tryz.func236 [3,6,7,8] (fun _=>[])
def Qr (x0:AV):Prog:=.loop [.int .i64 0,.int .i64 0] (fun a=>Ln 0 x0 fun b=>Bn .lss (g a 1) b fun b=>.ite b (Ix 6 x0 (g a 1) fun b=>Ld 6 b fun b=>Cl jO [b] fun b=>Bn .add (g a 0) b fun b=>Bn .add (g a 1) (.int .i64 1) fun a=>.leaf 0 [b,a]) (.leaf 2 [g a 0,g a 1])) fun a b=>aC a 1 (.leaf 1 b) (aC a 2 (.fin [.val (g b 0)]) .bad)
theorem acQ (x0:AV):CC Tryz.prog EP [x0] (Qr x0):=cc Tryz.func213 [0,3,4] (fun _=>[])
end
def kge (a b:ByteArray):Bool:=!(Op.bytesLess a.toList b.toList)
def Cu (l:List Attr) (i:Nat) (a:Attr):Prop:=pJ a∧∀ b,0 < i→l[((i:Int) - 1).toNat]? =some b→kge b.key a.key=false
def Mq (l:List Attr):Prop:=(∀ i a,l[i]? =some a→Cu l i a)∧(l.length:Int)≤4
theorem acu {h:AH} {l:List Attr} {v:AV} {F:List Nat} (ok:∀ x∈l,Cel.ok x) (r:ah h v l F):aP Tryz.prog Fe [v] h (.bool (bp (Mq l))):=by
 refine reader (adb _) (by simp only[old]) ?_
 unfold QN
 have hsm:=r.small
 refine vs ?_
 refine aX l.length (fun i vs h1=>vs=[.int .i64 (i:Int)]∧i≤l.length∧Ext h h1∧eZ l (Cu l) i) ⟨rfl,Nat.zero_le _,Ext.refl _,up0⟩ ?_
 rintro i vs h1 _ ⟨rfl,hi,e1,hu⟩
 simp only[g0]
 refine br (fun hlt=>?_) (fun hge=>?_)
 ·obtain⟨x,hx,-,-⟩:=aU (show i < l.length by omega)
  have okx:=ok x (List.mem_of_getElem? hx)
  (repeat' first|refine vs ?_|(refine br ?_ ?_<;>first|exact bx|intro _)|((with_reducible refine aG FJ ?_);(refine bC (adC okx) ?_ ?_<;>intro hn))|((with_reducible refine bB ?_);((first|refine ix ?_|(refine iP ?_;intro _ _));rintro _ _ _ _ _ ⟨rfl,rfl⟩ _))|fail)
  all_goals first
   |(refine pf fun k=>?_;have k:=k.1 i x hx;simp_all [Cu,kge];done)
   |(refine⟨by omega,rfl,by omega,aI,upS hu hx ⟨hn,fun b h0 hb=>?_⟩⟩;first|(exfalso;omega)|(simp_all [kge];done))
 ·(repeat' first|refine vs ?_|(refine br ?_ ?_<;>first|exact bx|intro _)|fail)
  all_goals(have e:i=l.length:=(by omega);rw[e] at hu;first|exact pt ⟨tK hu,by omega⟩|exact pf fun k=>by have:=k.2;omega)
theorem ace {h:AH} {l:List Attr} {v:AV} {F:List Nat} (ok:∀ x∈l,Cel.ok x) (r:ah h v l F):aP Tryz.prog ES [v] h (.bool (bp (Mq l))):=by
 refine reader (acV _) (by simp only[old]) ?_
 unfold Qw
 have hsm:=r.small
 refine aX l.length (fun i vs h1=>vs=[.int .i64 (i:Int)]∧i≤l.length∧Ext h h1∧eZ l (Cu l) i) ⟨rfl,Nat.zero_le _,Ext.refl _,up0⟩ ?_
 rintro i vs h1 _ ⟨rfl,hi,e1,hu⟩
 simp only[g0]
 refine vs ?_
 refine br (fun hlt=>?_) (fun hge=>?_)
 ·obtain⟨x,hx,-,-⟩:=aU (show i < l.length by omega)
  have okx:=ok x (List.mem_of_getElem? hx)
  (repeat' first|refine vs ?_|(refine br ?_ ?_<;>first|exact bx|intro _)|((with_reducible refine aG FC ?_);(refine bC (adw okx) ?_ ?_<;>intro hn))|((with_reducible refine bB ?_);((first|refine ix ?_|(refine iP ?_;intro _ _));rintro _ _ _ _ _ ⟨rfl,rfl⟩ _))|fail)
  all_goals first
   |(refine pf fun k=>?_;have k:=k.1 i x hx;simp_all [Cu,kge];done)
   |(refine⟨by omega,rfl,by omega,aI,upS hu hx ⟨hn,fun b h0 hb=>?_⟩⟩;first|(exfalso;omega)|(simp_all [kge];done))
 ·(repeat' first|refine vs ?_|(refine br ?_ ?_<;>first|exact bx|intro _)|fail)
  all_goals(have e:i=l.length:=(by omega);rw[e] at hu;first|exact pt ⟨tK hu,by omega⟩|exact pf fun k=>by have:=k.2;omega)
def bD {α:Type} (f:α→Int):List α→Int
 |[]=>0
 |x::l=>f x+bD f l
theorem qG {α:Type} (f:α→Int):∀ l r:List α,bD f (l++r)=bD f l+bD f r
 |[],r=>by simp[bD]
 |x::l,r=>by simp only[List.cons_append,bD,qG f l];omega
theorem rZ {α:Type} (f:α→Int) {xs:List α} {i:Nat} {x:α} (ht:xs.take (i+1)=xs.take i++[x]):bD f (xs.take (i+1))=bD f (xs.take i)+f x:=by rw[ht,qG];simp[bD]
theorem vw {α:Type} [Sz α] {f:α→Int} {a b:Int} (hb:∀ x,0≤f x∧f x≤a+b * (Sz.sz x:Nat)):∀ l:List α,0≤bD f l∧bD f l≤a * l.length+b * (szs l:Nat)
 |[]=>by simp[bD,szs]
 |x::l=>by
  have h1:=hb x;have h2:=vw hb l
  simp only[bD,szs,List.length_cons]
  have e1:a * ((l.length+1:Nat):Int)=a * l.length+a:=by rw[Int.natCast_add,Int.mul_add];simp
  have e2:b * ((Sz.sz x+szs l:Nat):Int)=b * (Sz.sz x:Nat)+b * (szs l:Nat):=by rw[Int.natCast_add,Int.mul_add]
  omega
theorem zh (a:Attr):0≤oI a∧oI a≤4+1 * (Sz.sz a:Nat):=by
 have:Sz.sz a=a.key.size+a.text.size:=rfl
 unfold oI;split<;>omega
def dR (s:Span):Int:=12+bD oI s.attrs
theorem wI (s:Span):0≤dR s∧dR s≤12+4 * (Sz.sz s:Nat):=by
 have:Sz.sz s=s.attrs.length+szs s.attrs:=rfl
 have:=vw zh s.attrs
 unfold dR;omega
theorem Q6 {h:AH} {s:Span} {v:AV} {F:List Nat} (hs:Sz.sz s≤67108864) (r:ah h v s.attrs F):aP Tryz.prog yP [.agg (s.cs v)] h (.int .i64 (dR s)):=by
 refine reader (aed _) (by simp only[old]) ?_
 unfold RO
 have hsz:Sz.sz s=s.attrs.length+szs s.attrs:=rfl
 have hsm:=r.small
 refine vs ?_
 refine aX s.attrs.length (fun i vs h1=>vs=[.int .i64 (12+bD oI (s.attrs.take i)),.int .i64 (i:Int)]∧i≤s.attrs.length∧Ext h h1) ⟨rfl,Nat.zero_le _,aI⟩ ?_
 rintro i vs h1 _ ⟨rfl,hi,e1⟩
 simp only[g0,g1]
 refine br (fun hlt=>?_) (fun hge=>?_)
 ·obtain⟨x,hx,-,ht⟩:=aU (show i < s.attrs.length by omega)
  have h2:=zh x
  have h3:=vw zh (s.attrs.take i)
  have h4:=mX s.attrs i
  have h5:=dh (List.mem_of_getElem? hx)
  rw[List.length_take] at h3
  (repeat' first|refine vs ?_|((with_reducible refine aG EF ?_);refine aQ (abp (by omega)) ?_)|((with_reducible refine bB ?_);((refine ix ?_);rintro _ _ _ _ _ ⟨rfl,rfl⟩ _))|fail)
  exact⟨by omega,by rw[rZ _ ht,Int.add_assoc],by omega,aI⟩
 ·(repeat' first|refine vs ?_|fail)
  refine pi ?_
  rw[show i=s.attrs.length by omega,List.take_length];rfl
theorem rO {h:AH} {s:Span} {v:AV} {F:List Nat} (hs:Sz.sz s≤67108864) (r:ah h v s.attrs F):aP Tryz.prog jO [.agg (s.cs v)] h (.int .i64 (dR s)):=by
 refine reader (adZ _) (by simp only[old]) ?_
 unfold Rw
 have hsz:Sz.sz s=s.attrs.length+szs s.attrs:=rfl
 have hsm:=r.small
 refine vs ?_
 refine aX s.attrs.length (fun i vs h1=>vs=[.int .i64 (12+bD oI (s.attrs.take i)),.int .i64 (i:Int)]∧i≤s.attrs.length∧Ext (h.push ⟨s.cs v,0,0⟩) h1) ⟨rfl,Nat.zero_le _,aI⟩ ?_
 rintro i vs h1 _ ⟨rfl,hi,e1⟩
 simp only[g0,g1]
 refine vs ?_
 refine br (fun hlt=>?_) (fun hge=>?_)
 ·obtain⟨x,hx,-,ht⟩:=aU (show i < s.attrs.length by omega)
  have h2:=zh x
  have h3:=vw zh (s.attrs.take i)
  have h4:=mX s.attrs i
  have h5:=dh (List.mem_of_getElem? hx)
  rw[List.length_take] at h3
  (repeat' first|refine vs ?_|((with_reducible refine aG Ew ?_);refine aQ (abg (by omega)) ?_)|((with_reducible refine bB ?_);((refine ix ?_);rintro _ _ _ _ _ ⟨rfl,rfl⟩ _))|fail)
  exact⟨by omega,by rw[rZ _ ht,Int.add_assoc],by omega,aI⟩
 ·(repeat' first|refine vs ?_|fail)
  refine pi ?_
  rw[show i=s.attrs.length by omega,List.take_length];rfl
def sV (s:Span):Prop:=(1≤s.trace∧s.trace≤999)∧(1≤s.id∧s.id≤999)∧(0≤s.start∧s.start≤s.fin∧s.fin≤99999)∧Mq s.attrs∧dR s≤96
theorem Kv {h:AH} {s:Span} {v:AV} {F:List Nat} (ok:Cel.ok s) (hs:Sz.sz s≤67108864) (r:ah h v s.attrs F):aP Tryz.prog uI [.agg (s.cs v)] h (.bool (bp (sV s))):=by
 refine reader (aec _) (by simp only[old]) ?_
 unfold RN
 obtain⟨k1,k2,k3,k4,k5⟩:=ok
 (repeat' first|refine vs ?_|(refine br ?_ ?_<;>first|exact bx|intro _)|((with_reducible refine aG bT ?_);(refine dS jG ?_ ?_<;>intro hb<;>first|replace hb:=fE hb|replace hb:=fG hb))|((with_reducible refine aG Fe ?_);(refine bC (acu k5 aB) ?_ ?_<;>intro hn))|((with_reducible refine aG yP ?_);refine aQ (Q6 hs aB) ?_)|fail)
 all_goals first
  |exact pt ⟨by omega,by omega,by omega,by assumption,by omega⟩
  |exact pf fun k=>by obtain⟨a1,a2,a3,a4,a5⟩:=k;first|omega|contradiction
theorem adp {h:AH} {s:Span} {v:AV} {F:List Nat} (ok:Cel.ok s) (hs:Sz.sz s≤67108864) (r:ah h v s.attrs F):aP Tryz.prog Fw [.agg (s.cs v)] h (.bool (bp (sV s))):=by
 refine reader (adY _) (by simp only[old]) ?_
 unfold Rv
 obtain⟨k1,k2,k3,k4,k5⟩:=ok
 (repeat' first|refine vs ?_|(refine br ?_ ?_<;>first|exact bx|intro _)|((with_reducible refine aG dJ ?_);(refine dS j5 ?_ ?_<;>intro hb<;>first|replace hb:=fE hb|replace hb:=fG hb))|((with_reducible refine aG ES ?_);(refine bC (ace k5 aB) ?_ ?_<;>intro hn))|((with_reducible refine aG jO ?_);refine aQ (rO hs aB) ?_)|fail)
 all_goals first
  |exact pt ⟨by omega,by omega,by omega,by assumption,by omega⟩
  |exact pf fun k=>by obtain⟨a1,a2,a3,a4,a5⟩:=k;first|omega|contradiction
theorem aco {h:AH} {l:List Span} {v:AV} {F:List Nat} (hs:l.length+szs l≤67108864) (r:ah h v l F):aP Tryz.prog EZ [v] h (.int .i64 (bD dR l)):=by
 refine reader (ac6 _) (by simp only[old]) ?_
 unfold QI
 have hsm:=r.small
 refine vs ?_
 refine aX l.length (fun i vs h1=>vs=[.int .i64 (bD dR (l.take i)),.int .i64 (i:Int)]∧i≤l.length∧Ext h h1) ⟨rfl,Nat.zero_le _,aI⟩ ?_
 rintro i vs h1 _ ⟨rfl,hi,e1⟩
 simp only[g0,g1]
 refine br (fun hlt=>?_) (fun hge=>?_)
 ·obtain⟨x,hx,-,ht⟩:=aU (show i < l.length by omega)
  have h2:=wI x
  have h3:=vw wI (l.take i)
  have h4:=mX l i
  have h5:=dh (List.mem_of_getElem? hx)
  rw[List.length_take] at h3
  (repeat' first|refine vs ?_|((with_reducible refine aG yP ?_);refine aQ (Q6 (by omega) aB) ?_)|((with_reducible refine bB ?_);((refine ix ?_);rintro _ _ _ _ _ ⟨_,rfl,_⟩ _))|fail)
  exact⟨by omega,by rw[rZ _ ht],by omega,aI⟩
 ·(repeat' first|refine vs ?_|fail)
  refine pi ?_
  rw[show i=l.length by omega,List.take_length]
theorem ab8 {h:AH} {l:List Span} {v:AV} {F:List Nat} (hs:l.length+szs l≤67108864) (r:ah h v l F):aP Tryz.prog EP [v] h (.int .i64 (bD dR l)):=by
 refine reader (acQ _) (by simp only[old]) ?_
 unfold Qr
 have hsm:=r.small
 refine aX l.length (fun i vs h1=>vs=[.int .i64 (bD dR (l.take i)),.int .i64 (i:Int)]∧i≤l.length∧Ext h h1) ⟨rfl,Nat.zero_le _,aI⟩ ?_
 rintro i vs h1 _ ⟨rfl,hi,e1⟩
 simp only[g0,g1]
 refine vs ?_
 refine br (fun hlt=>?_) (fun hge=>?_)
 ·obtain⟨x,hx,-,ht⟩:=aU (show i < l.length by omega)
  have h2:=wI x
  have h3:=vw wI (l.take i)
  have h4:=mX l i
  have h5:=dh (List.mem_of_getElem? hx)
  rw[List.length_take] at h3
  (repeat' first|refine vs ?_|((with_reducible refine aG jO ?_);refine aQ (rO (by omega) aB) ?_)|((with_reducible refine bB ?_);((refine ix ?_);rintro _ _ _ _ _ ⟨_,rfl,_⟩ _))|fail)
  exact⟨by omega,by rw[rZ _ ht],by omega,aI⟩
 ·(repeat' first|refine vs ?_|fail)
  refine pi ?_
  rw[show i=l.length by omega,List.take_length]
end Go.Proofs.YtcgjihfngdhjjaaGreat
end
section
namespace Go.Proofs.YtcgjihfngdhjjaaGreat
open Go Go.Ab
section
def PD (x0 x1:AV):Prog:=.op (.box x0) fun a=>.op (.box x1) fun b=>Lg 0 a fun c=>Lg 0 b fun d=>Bn .eql c d fun c=>Gf c true 1 a fun d=>Gf c true 1 b fun e=>.gop c true (.bin 0 .eql d e) fun d=>Pk c d (.bool false) fun c=>Gf c true 2 a fun d=>Gf c true 2 b fun e=>.gop c true (.bin 0 .eql d e) fun d=>Pk c d (.bool false) fun c=>Gf c true 3 a fun d=>Gf c true 3 b fun e=>.gop c true (.bin 0 .eql d e) fun d=>Pk c d (.bool false) fun c=>Gf c true 4 a fun d=>Gf c true 4 b fun e=>.gop c true (.bin 2 .eql d e) fun d=>Pk c d (.bool false) fun c=>Gf c true 5 a fun a=>Gf c true 5 b fun b=>.gop c true (.call Ec [a,b]) fun a=>Pk c a (.bool false) fun a=>.fin [.val a]
theorem abO (x0 x1:AV):CC Tryz.prog qA [x0,x1] (PD x0 x1):=cc Tryz.func40
def Oe (x0 x1:AV):Prog:=Ln 0 x0 fun a=>Ln 0 x1 fun b=>Bn .neq a b fun a=>.ite a (.fin [.val (.bool false)]) (Ln 0 x0 fun a=>.loop [.int .i64 0] (fun b=>Bn .lss (g b 0) a fun a=>.ite a (Ix 4 x0 (g b 0) fun a=>Ld 4 a fun a=>Ix 4 x1 (g b 0) fun c=>Ld 4 c fun c=>.op (.eqs [1,2,0,1] true a c) fun a=>.ite a (.fin [.val (.bool false)]) (Bn .add (g b 0) (.int .i64 1) fun a=>.leaf 0 [a])) (.leaf 2 [g b 0])) fun a b=>aC a 1 (.leaf 1 b) (aC a 2 (.fin [.val (.bool true)]) .bad))
theorem Z6 (x0 x1:AV):CC Tryz.prog Ec [x0,x1] (Oe x0 x1):=cc Tryz.func95 [0,1,12,13] (fun r=>if r=6 then[(0,[]),(1,[]),(2,[]),(3,[]),(4,[]),(5,[]),(6,[]),(7,[]),(8,[])] else[])
end
theorem agK (x y:Attr):rE [1,2,0,1] x.cs y.cs=some (bp (x=y)):=by
 have:rE [1,2,0,1] x.cs y.cs=some (decide (x.key=y.key) && ((x.num == y.num) && (decide (x.n=y.n) && (decide (x.text=y.text) && true)))):=rfl
 rw[this]
 congr 1
 refine M6 ?_
 cases x;cases y
 simp[Attr.mk.injEq]
section
variable{P:Program} {h:AH} {Q:Nat→List AV→AH→Prop} {k:AV→Prog}
theorem ai6 {x y:Attr} (h1: ¬ x=y→(k (.bool true)).awp P h Q) (h2:x=y→(k (.bool false)).awp P h Q):(Prog.op (.eqs [1,2,0,1] true (.agg x.cs) (.agg y.cs)) k).awp P h Q:=by
 simp only[Prog.awp,AOp.go,agK,if_true]
 by_cases e:x=y
 ·rw[fK e];exact h2 e
 ·rw[gM e];exact h1 e
end
theorem Z0 {h:AH} {xs ys:List Attr} {v0 v1:AV} {F G:List Nat} (r:ah h v0 xs F) (r':ah h v1 ys G):aP Tryz.prog Ec [v0,v1] h (.bool (bp (xs=ys))):=by
 refine reader (Z6 _ _) (by simp only[old]) ?_
 unfold Oe
 have hsm:=r.small
 refine eG r (eG r' ?_)
 (repeat' first|refine vs ?_|(refine br ?_ ?_<;>first|exact bx|intro _)|fail)
 ·exact pf (by intro k;subst k;omega)
 ·refine aX xs.length (fun i vs h1=>vs=[.int .i64 (i:Int)]∧i≤xs.length∧h1=h∧Ay xs ys i) ⟨rfl,Nat.zero_le _,rfl,eu0⟩ ?_
  rintro i vs h1 _ ⟨rfl,hi,rfl,hu⟩
  simp only[g0]
  refine br (fun hlt=>?_) (fun hge=>?_)
  ·obtain⟨x,hx,-,-⟩:=aU (show i < xs.length by omega)
   obtain⟨y,hy,-,-⟩:=aU (show i < ys.length by omega)
   refine vs ?_
   refine dw r hx rfl ?_
   rintro b o _ _ a ⟨rfl,rfl⟩ _
   refine vs ?_
   refine dw r' hy rfl ?_
   rintro b' o' _ _ a' ⟨rfl,rfl⟩ _
   refine vs ?_
   refine ai6 (fun e=>?_) (fun e=>?_)
   ·(repeat' first|refine vs ?_|fail)
    exact pf (XL hx hy e)
   ·(repeat' first|refine vs ?_|fail)
    exact⟨by omega,rfl,by omega,rfl,euS hu hx hy e⟩
  ·(repeat' first|refine vs ?_|fail)
   exact pt (XM (by rw[show i=xs.length by omega] at hu;exact hu) (by omega))
theorem Eu {h:AH} {a b:Span} {v v':AV} {F F':List Nat} (r:ah h v a.attrs F) (r':ah h v' b.attrs F'):aP Tryz.prog qA [.agg (a.cs v),.agg (b.cs v')] h (.bool (bp (a=b))):=by
 refine reader (abO _ _) (by simp only[old]) ?_
 unfold PD
 (repeat' first|refine vs ?_|(refine br ?_ ?_<;>first|exact bx|intro _)|((with_reducible refine aG Ec ?_);(refine bC (Z0 aB aB) ?_ ?_<;>intro hn))|fail)
 all_goals first
  |(refine pf ?_;rintro rfl;contradiction)
  |(refine pt ?_;cases a;cases b;simp_all;done)
end Go.Proofs.YtcgjihfngdhjjaaGreat
end
section
set_option maxHeartbeats 1000000
namespace Go.Proofs.YtcgjihfngdhjjaaGreat
open Go Go.Ab
section
end
theorem ajm {x y:Pol} (h:y∈x.l):SizeOf.sizeOf y < SizeOf.sizeOf x:=by
 cases x with
 |mk k n s t l=>
  have:=List.sizeOf_lt_of_mem (show y∈l from h)
  simp only[Pol.mk.sizeOf_spec];omega
theorem sN {p:Pol→Prop} (step:∀ x,(∀ y∈x.l,p y)→p x):∀ x,p x:=fun x=>
 step x fun y hy=>sN step y
termination_by x=>SizeOf.sizeOf x
decreasing_by exact ajm hy
end Go.Proofs.YtcgjihfngdhjjaaGreat
end
section
namespace Go.Proofs.YtcgjihfngdhjjaaGreat
open Go Go.Ab
section
def QM (x0:AV):Prog:=.op (.box x0) fun a=>Lg 3 a fun a=>Cl EZ [a] fun a=>.fin [.val a]
theorem ada (x0:AV):CC Tryz.prog E9 [x0] (QM x0):=cc Tryz.func176
def Qv (x0:AV):Prog:=.op (.box x0) fun a=>Lg 3 a fun a=>Cl EP [a] fun a=>.fin [.val a]
theorem acU (x0:AV):CC Tryz.prog Ba [x0] (Qv x0):=cc Tryz.func138
def QH (x0 x1:AV):Prog:=.op (.box x1) fun a=>.op (.tY JO [a]) fun a=>Cl D7 [x0,a] fun a=>.fin [.val a]
theorem ac5 (x0 x1:AV):CC Tryz.prog EY [x0,x1] (QH x0 x1):=cc Tryz.func56
def Qq (x0 x1:AV):Prog:=.loop [.int .i64 0] (fun a=>Ln 0 x0 fun b=>Bn .lss (g a 0) b fun b=>.ite b (Ix 4 x0 (g a 0) fun b=>Lg 0 b fun b=>Bn .eql b x1 fun b=>.ite b (.fin [.val (g a 0)]) (Bn .add (g a 0) (.int .i64 1) fun a=>.leaf 0 [a])) (.leaf 2 [g a 0])) fun a b=>aC a 1 (.leaf 1 b) (aC a 2 (.fin [.val (.int .i64 (-1))]) .bad)
theorem acP (x0 x1:AV):CC Tryz.prog yG [x0,x1] (Qq x0 x1):=cc Tryz.func283 [0,1,5] (fun _=>[])
def OP (x0 x1:AV):Prog:=.op (.box x0) fun a=>Lg 0 a fun a=>.op (.ld1 x1) fun b=>Bn .eql a b fun a=>.fin [.val a]
theorem aa1 (x0 x1:AV):CC Tryz.prog JO [x0,x1] (OP x0 x1):=cc Tryz.func120
def ZF (x0 x1:AV):Prog:=Ln 0 x0 fun a=>.loop [.int .i64 0] (fun b=>Bn .lss (g b 0) a fun a=>.ite a (Ix 4 x0 (g b 0) fun a=>Ld 4 a fun a=>.op (.gW x1 [a]) fun a=>.ite a (.fin [.val (g b 0)]) (Bn .add (g b 0) (.int .i64 1) fun a=>.leaf 0 [a])) (.leaf 2 [g b 0])) fun a b=>aC a 1 (.leaf 1 b) (aC a 2 (.fin [.val (.int .i64 (-1))]) .bad)
theorem ZH (x0 x1:AV):CC Tryz.prog D7 [x0,x1] (ZF x0 x1):=cc Tryz.func119 [0,1,7,8] (fun _=>[])
def RQ (x0:AV):Prog:=.op (.box x0) fun a=>Lg 0 a fun b=>Bn .geq b (.int .i64 1) fun b=>.gop b true (.fad 1 a) fun a=>.gop b true (.ldn 6 a) fun a=>.gop b true (.call uI [a]) fun a=>Pk b a (.bool false) fun a=>.fin [.val a]
theorem aef (x0:AV):CC Tryz.prog yQ [x0] (RQ x0):=cc Tryz.func179
def PE (x0 x1:AV):Prog:=.op (.box x0) fun a=>.op (.box x1) fun b=>Lg 0 a fun c=>Lg 0 b fun d=>Bn .eql c d fun c=>.gop c true (.fad 1 a) fun a=>.gop c true (.ldn 6 a) fun a=>.gop c true (.fad 1 b) fun b=>.gop c true (.ldn 6 b) fun b=>.gop c true (.call qA [a,b]) fun a=>Pk c a (.bool false) fun a=>.fin [.val a]
theorem abP (x0 x1:AV):CC Tryz.prog EC [x0,x1] (PE x0 x1):=cc Tryz.func148
end
theorem acs {h:AH} {t:Trail} {v:AV} {F:List Nat} (hs:Sz.sz t≤67108864) (r:ah h v t.spans F):aP Tryz.prog E9 [.agg (t.cs v)] h (.int .i64 (bD dR t.spans)):=by
 refine reader (ada _) (by simp only[old]) ?_
 unfold QM
 (repeat' first|refine vs ?_|((with_reducible refine aG EZ ?_);refine aQ (aco hs aB) ?_)|fail)
 exact pi rfl
theorem PX {h:AH} {t:Trail} {v:AV} {F:List Nat} (hs:Sz.sz t≤67108864) (r:ah h v t.spans F):aP Tryz.prog Ba [.agg (t.cs v)] h (.int .i64 (bD dR t.spans)):=by
 refine reader (acU _) (by simp only[old]) ?_
 unfold Qv
 (repeat' first|refine vs ?_|((with_reducible refine aG EP ?_);refine aQ (ab8 hs aB) ?_)|fail)
 exact pi rfl
def isId (k:Int) (t:Trail):Bool:=decide (t.id=k)
theorem ae7 {h:AH} {b:Nat} {k:Int} (a:At h b 0 [.int .i64 k]):Looks Trail Tryz.prog h JO [.ptr b 0] (isId k):=by
 rintro x cs F ⟨v,rfl,r⟩
 refine reader (aa1 _ _) (by simp only[old]) ?_
 unfold OP
 (repeat' first|refine vs ?_|(refine br ?_ ?_<;>first|exact bx|intro _)|fail)
 all_goals(refine pb ?_;simp[isId, *])
theorem ZE {h:AH} {xs:List Trail} {x0:AV} {F:List Nat} {f:FuncId} {caps:List AV} {p:Trail→Bool} (r:ah h x0 xs F) (hf:Looks Trail Tryz.prog h f caps p):
  aP Tryz.prog D7 [x0,.fn f caps] h (.int .i64 (idx p xs)):=
 reader (ZH _ _) (by simp only[old]) (Lp (w:=4) rfl r hf)
theorem acn {h:AH} {xs:List Trail} {x0:AV} {F:List Nat} {k:Int} (r:ah h x0 xs F):aP Tryz.prog EY [x0,.int .i64 k] h (.int .i64 (idx (isId k) xs)):=by
 refine reader (ac5 _ _) (by simp only[old]) ?_
 unfold QH
 (repeat' first|refine vs ?_|((with_reducible refine aG D7 ?_);refine aQ (ZE aB (ae7 oV)) ?_)|fail)
 exact pi rfl
theorem J9 {h:AH} {xs:List Trail} {x0:AV} {F:List Nat} {k:Int} (r:ah h x0 xs F):aP Tryz.prog yG [x0,.int .i64 k] h (.int .i64 (idx (isId k) xs)):=by
 refine reader (acP _ _) (by simp only[old]) ?_
 unfold Qq
 have hsm:=r.small
 refine aX xs.length (fun i vs h1=>vs=[.int .i64 (i:Int)]∧i≤xs.length∧h1=h∧eZ xs (fun _ t=>isId k t=false) i) ⟨rfl,Nat.zero_le _,rfl,up0⟩ ?_
 rintro i vs h1 _ ⟨rfl,hi,rfl,hu⟩
 simp only[g0]
 refine vs ?_
 refine br (fun hlt=>?_) (fun hge=>?_)
 ·obtain⟨x,hx,-,-⟩:=aU (show i < xs.length by omega)
  (repeat' first|refine vs ?_|(refine br ?_ ?_<;>first|exact bx|intro _)|((with_reducible refine bB ?_);((refine ix ?_);rintro _ _ _ _ _ ⟨_,rfl,_⟩ _))|fail)
  ·rename_i he
   exact pi (xA hx (by simp[isId,he]) fun j y hj hy=>hu j y hj hy).symm
  ·rename_i he
   exact⟨by omega,rfl,by omega,rfl,upS hu hx (by simp[isId,he])⟩
 ·(repeat' first|refine vs ?_|fail)
  exact pi (CF fun j y hj hy=>hu j y (by omega) hy).symm
def kZ (x:Itm):Prop:=1≤x.stamp∧sV x.s
theorem Q8 {h:AH} {x:Itm} {v:AV} {F:List Nat} (ok:Cel.ok x.s) (hs:Sz.sz x≤67108864) (r:ah h v x.s.attrs F):aP Tryz.prog yQ [.agg (x.cs v)] h (.bool (bp (kZ x))):=by
 refine reader (aef _) (by simp only[old]) ?_
 unfold RQ
 (repeat' first|refine vs ?_|(refine br ?_ ?_<;>first|exact bx|intro _)|((with_reducible refine aG uI ?_);(refine bC (Kv ok hs aB) ?_ ?_<;>intro hn))|fail)
 all_goals first
  |exact pt ⟨by omega,by assumption⟩
  |exact pf fun k=>by obtain⟨a1,a2⟩:=k;first|omega|contradiction
theorem abn {h:AH} {a b:Itm} {v v':AV} {F F':List Nat} (r:ah h v a.s.attrs F) (r':ah h v' b.s.attrs F'):aP Tryz.prog EC [.agg (a.cs v),.agg (b.cs v')] h (.bool (bp (a=b))):=by
 refine reader (abP _ _) (by simp only[old]) ?_
 unfold PE
 (repeat' first|refine vs ?_|(refine br ?_ ?_<;>first|exact bx|intro _)|((with_reducible refine aG qA ?_);(refine bC (Eu (a:=a.s) (b:=b.s) aB aB) ?_ ?_<;>intro hn))|fail)
 all_goals first
  |(refine pf ?_;rintro rfl;contradiction)
  |(refine pt ?_;cases a;cases b;simp_all;done)
end Go.Proofs.YtcgjihfngdhjjaaGreat
end
section
set_option maxHeartbeats 1000000
namespace Go.Proofs.YtcgjihfngdhjjaaGreat
open Go Go.Ab
section
def RS (x0:AV):Prog:=.op (.box x0) fun a=>Lg 0 a fun b=>Cl bT [b,.int .i64 1,.int .i64 4] fun b=>.op (.una .not b) fun b=>Gf b false 17 a fun c=>.gop b false (.bin 0 .lss c (.int .i64 0)) fun c=>Pk b (.bool true) c fun b=>Gf b false 13 a fun c=>Gf b false 14 a fun d=>Gf b false 15 a fun e=>Gf b false 16 a fun f=>.gop b false (.mnx true [c,d,e,f]) fun c=>.gop b false (.bin 0 .lss c (.int .i64 0)) fun c=>Pk b (.bool true) c fun b=>.ite b (.fin [.val (.bool false)]) (Lg 0 a fun b=>Bn .eql b (.int .i64 1) fun b=>Gf b true 18 a fun c=>.gop b true (.bin 0 .neq c (.int .i64 (-1))) fun c=>Pk b c (.bool false) fun b=>.scope (.ite b (Lg 10 a fun a=>Cl bT [a,.int .i64 1,.int .i64 5] fun a=>.op (.una .not a) fun a=>.ite a (.fin [.val (.bool false)]) (.leaf 0 [])) (Lg 10 a fun a=>Bn .neq a (.int .i64 0) fun a=>.ite a (.fin [.val (.bool false)]) (.leaf 0 []))) (fun _=>Lg 18 a fun b=>.op (.bin 0 .eql b (.int .i64 (-1))) fun b=>Gf b false 18 a fun c=>Gf b false 17 a fun d=>.gop b false (.bin 0 .geq c d) fun c=>Pk b (.bool true) c fun b=>Gf b true 19 a fun c=>.gop b true (.bin 0 .eql c (.int .i64 (-1))) fun c=>.gop b true (.mv c) fun c=>Gf c false 18 a fun d=>.gop c false (.bin 0 .neq d (.int .i64 (-1))) fun d=>.gop c false (.mv d) fun d=>Gf d true 19 a fun e=>Gf d true 18 a fun a=>.gop d true (.bin 0 .geq e a) fun a=>.gop c false (.pick d a (.bool false)) fun a=>.gop b true (.pick c (.bool true) a) fun a=>Pk b a (.bool false) fun a=>.fin [.val a]) fun a b=>aC a 1 (.leaf 1 b) .bad)
theorem aeg (x0:AV):CC Tryz.prog FH [x0] (RS x0):=cc Tryz.func106 [1] (fun _=>[])
def OT (x0:AV):Prog:=.op (.box x0) fun a=>Lg 0 a fun b=>Bn .eql b (.int .i64 2) fun b=>Gf b true 1 a fun a=>.gop b true (.bin 0 .eql a (.int .i64 2)) fun a=>Pk b a (.bool false) fun a=>.fin [.val a]
theorem aa3 (x0:AV):CC Tryz.prog kU [x0] (OT x0):=cc Tryz.func12
def PG (x0 x1:AV):Prog:=.op (.box x0) fun a=>Lg 1 a fun a=>Cl Gd [x1,a] fun a=>.fin [.val a]
theorem abQ (x0 x1:AV):CC Tryz.prog yF [x0,x1] (PG x0 x1):=cc Tryz.func21
def Pn (x0 x1:AV):Prog:=.op (.box x0) fun a=>Lg 1 a fun a=>Cl yY [x1,a] fun a=>.fin [.val a]
theorem abE (x0 x1:AV):CC Tryz.prog Ev [x0,x1] (Pn x0 x1):=cc Tryz.func275
end
def jL (d:aW):Prop:=(1≤d.op∧d.op≤4)∧0≤d.inv∧0≤d.took∧0≤d.n∧0≤d.forgot∧0≤d.now∧((d.op=1∧d.lin≠-1∧1≤d.code∧d.code≤5)∨(¬ (d.op=1∧d.lin≠-1)∧d.code=0))∧(d.lin= -1∨d.inv≤d.lin)∧(d.res= -1∨(d.lin≠-1∧d.lin≤d.res))
theorem ai4 {P:Program} {h:AH} {Q:Nat→List AV→AH→Prop} {k:AV→Prog} {a b c d:Int} (hk:(k (.int .i64 (min (min (min a b) c) d))).awp P h Q):(Prog.op (.mnx true [.int .i64 a,.int .i64 b,.int .i64 c,.int .i64 d]) k).awp P h Q:=by
 simp only[Prog.awp,AOp.go,vW,qN,if_true]
 have e:∀ x y:Int,(if y < x then y else x)=min x y:=fun x y=>by split<;>omega
 simp only[e]
 exact hk
theorem adA {h:AH} {d:aW} {v:AV}:aP Tryz.prog FH [.agg (d.cs v)] h (.bool (bp (jL d))):=by
 refine reader (aeg _) (by simp only[old]) ?_
 unfold RS
 (repeat' first|refine vs ?_|(refine br ?_ ?_<;>first|exact bx|intro _)|((with_reducible refine aG bT ?_);(refine dS jG ?_ ?_<;>intro hb<;>first|replace hb:=fE hb|replace hb:=fG hb))|fail)
 all_goals first
  |(refine pf ?_;unfold jL;omega)
  |skip
 refine ai4 ?_
 (repeat' first|refine vs ?_|(refine br ?_ ?_<;>first|exact bo|intro _)|((with_reducible refine aG bT ?_);(refine dS jG ?_ ?_<;>intro hb<;>first|replace hb:=fE hb|replace hb:=fG hb))|fail)
 all_goals first
  |(refine pt ?_;unfold jL;omega)
  |(refine pf ?_;unfold jL;omega)
theorem yD {h:AH} {t:Task} {v v':AV}:aP Tryz.prog kU [.agg (t.cs v v')] h (.bool (bp (t.op=2∧t.pc=2))):=by
 refine reader (aa3 _) (by simp only[old]) ?_
 unfold OT
 (repeat' first|refine vs ?_|(refine br ?_ ?_<;>first|exact bx|intro _)|fail)
 all_goals first
  |exact pt ⟨by omega,by omega⟩
  |exact pf fun k=>by obtain⟨a1,a2⟩:=k;omega
theorem O1 {h:AH} {c:iQ} {v:AV} {a:Int}:aP Tryz.prog yF [.agg (c.cs v),.int .i64 a] h (.int .i64 (cK a c.wait)):=by
 refine reader (abQ _ _) (by simp only[old]) ?_
 unfold PG
 (repeat' first|refine vs ?_|((with_reducible refine aG Gd ?_);refine aQ afA ?_)|fail)
 exact pi rfl
theorem abf {h:AH} {c:iQ} {v:AV} {a:Int}:aP Tryz.prog Ev [.agg (c.cs v),.int .i64 a] h (.int .i64 (cK a c.wait)):=by
 refine reader (abE _ _) (by simp only[old]) ?_
 unfold Pn
 (repeat' first|refine vs ?_|((with_reducible refine aG yY ?_);refine aQ Tz ?_)|fail)
 exact pi rfl
end Go.Proofs.YtcgjihfngdhjjaaGreat
end
section
set_option maxHeartbeats 1000000
namespace Go.Proofs.YtcgjihfngdhjjaaGreat
open Go Go.Ab
section
end
end Go.Proofs.YtcgjihfngdhjjaaGreat
end
section
set_option maxHeartbeats 1000000
namespace Go.Proofs.YtcgjihfngdhjjaaGreat
open Go Go.Ab
section
def TM (x0:AV):Prog:=Bn .and x0 (.int .i64 65535) fun a=>Bn .shl a (.int .u64 7) fun b=>Bn .and b (.int .i64 65535) fun b=>Bn .xor a b fun a=>Bn .shr a (.int .u64 9) fun b=>Bn .xor a b fun a=>Bn .shl a (.int .u64 8) fun b=>Bn .and b (.int .i64 65535) fun b=>Bn .xor a b fun a=>.fin [.val a]
theorem afV (x0:AV):CC Tryz.prog Gc [x0] (TM x0):=cc Tryz.func99
def TG (x0:AV):Prog:=Bn .and x0 (.int .i64 65535) fun a=>Bn .shl a (.int .u64 7) fun b=>Bn .xor a b fun a=>Bn .and a (.int .i64 65535) fun a=>Bn .shr a (.int .u64 9) fun b=>Bn .xor a b fun a=>Bn .shl a (.int .u64 8) fun b=>Bn .xor a b fun a=>Bn .and a (.int .i64 65535) fun a=>.fin [.val a]
theorem afR (x0:AV):CC Tryz.prog Gb [x0] (TG x0):=cc Tryz.func212
def Pz (x0 x1:AV):Prog:=Bn .lss x1 (.int .i64 1) fun a=>.ite a (.fin [.val (.int .i64 0)]) (Cl Gc [x0] fun a=>Bn .rem a x1 fun a=>.fin [.val a])
theorem abN (x0 x1:AV):CC Tryz.prog rJ [x0,x1] (Pz x0 x1):=cc Tryz.func45
def Pb (x0 x1:AV):Prog:=Bn .lss x1 (.int .i64 1) fun a=>.ite a (.fin [.val (.int .i64 0)]) (Cl Gb [x0] fun a=>Bn .rem a x1 fun a=>.fin [.val a])
theorem aby (x0 x1:AV):CC Tryz.prog fO [x0,x1] (Pb x0 x1):=cc Tryz.func136
def Oj (x0 x1:AV):Prog:=.op (.box x0) fun a=>Bn .lss x1 (.int .i64 1) fun b=>.ite b (.fin [.val (.int .i64 (-1))]) (Lg 0 a fun b=>Bn .eql b (.int .i64 1) fun b=>Gf b true 1 a fun c=>.gop b true (.bin 0 .eql c (.int .i64 1)) fun c=>Pk b c (.bool false) fun b=>.ite b (.op (.fad 2 a) fun a=>Lg 0 a fun a=>Cl rJ [a,x1] fun a=>.fin [.val a]) (Lg 0 a fun b=>Bn .eql b (.int .i64 1) fun b=>Gf b true 1 a fun c=>.gop b true (.bin 0 .eql c (.int .i64 3)) fun c=>Pk b c (.bool false) fun b=>.scope (.ite b (.leaf 0 [b]) (Lg 0 a fun b=>Bn .eql b (.int .i64 2) fun b=>Gf b true 1 a fun c=>.gop b true (.bin 0 .eql c (.int .i64 1)) fun c=>.gop b true (.mv c) fun c=>Gf c false 1 a fun a=>.gop c false (.bin 0 .eql a (.int .i64 2)) fun a=>.gop b true (.pick c (.bool true) a) fun a=>Pk b a (.bool false) fun a=>.leaf 0 [a])) (fun b=>.ite (g b 0) (Lg 8 a fun a=>Cl rJ [a,x1] fun a=>.fin [.val a]) (.fin [.val (.int .i64 (-1))])) fun a b=>aC a 1 (.leaf 1 b) .bad))
theorem aad (x0 x1:AV):CC Tryz.prog qz [x0,x1] (Oj x0 x1):=cc Tryz.func11 [1,2,22] (fun _=>[])
def QG (x0:AV):Prog:=.op (.box x0) fun a=>Lg 3 a fun b=>Ln 0 b fun c=>.loop [.int .i64 0] (fun d=>Bn .lss (g d 0) c fun c=>.ite c (Ix 6 b (g d 0) fun b=>Ld 6 b fun b=>.op (.alloc jT) fun c=>.op (.st 6 c b) fun _=>Ld 6 c fun b=>Cl uI [b] fun b=>.op (.una .not b) fun b=>Gf b false 0 c fun c=>Gf b false 0 a fun a=>.gop b false (.bin 0 .neq c a) fun a=>Pk b (.bool true) a fun a=>.ite a (.fin [.val (.bool false)]) (Bn .add (g d 0) (.int .i64 1) fun a=>.leaf 0 [a])) (.leaf 2 [g d 0])) fun b c=>aC b 1 (.leaf 1 c) (aC b 2 (Lg 0 a fun b=>Cl bT [b,.int .i64 1,.int .i64 999] fun b=>Gf b true 1 a fun c=>.gop b true (.bin 0 .geq c (.int .i64 1)) fun c=>Pk b c (.bool false) fun b=>Gf b true 2 a fun c=>.gop b true (.call bT [c,.int .i64 0,.int .i64 2147483647]) fun c=>Pk b c (.bool false) fun b=>Gf b true 3 a fun a=>.gop b true (.len 0 a) fun a=>.gop b true (.bin 0 .gtr a (.int .i64 0)) fun a=>Pk b a (.bool false) fun a=>.fin [.val a]) .bad)
theorem ac4 (x0:AV):CC Tryz.prog EX [x0] (QG x0):=cc Tryz.func171 [1,6,7,8] (fun _=>[])
def SY (x0 x1:AV):Prog:=.op (.box x0) fun a=>.op (.box x1) fun b=>Ld 6 b fun c=>Cl Fw [c] fun c=>.gop c true (.ldn 6 b) fun b=>.gop c true (.fad 2 a) fun a=>.gop c true (.ld1 a) fun d=>.gop c true (.call jO [b]) fun b=>.lN c true (.ld1 a) d (.gop c true (.bin 0 .leq b d) fun a=>Pk c a (.bool false) fun a=>.fin [.val a])
theorem afh (x0 x1:AV):CC Tryz.prog Bp [x0,x1] (SY x0 x1):=cc Tryz.func166 [] (fun r=>if r=1 then[(0,[]),(1,[]),(2,[]),(3,[]),(5,[]),(6,[]),(4,[6]),(7,[]),(8,[]),(9,[])] else[])
end
section
variable{P:Program} {h:AH} {Q:Nat→List AV→AH→Prop} {k:AV→Prog}
theorem Ic {p:Nat} (hp:p < 9223372036854775808):(BitVec.ofInt 64 (p:Int)).toNat=p:=by
 rw[BitVec.ofInt_natCast,BitVec.toNat_ofNat];omega
theorem Hy {p q:Nat} (hp:p < 9223372036854775808) (hq:q < 9223372036854775808) (hk:(k (.int .i64 ((p &&& q:Nat):Int))).awp P h Q):(Prog.op (.bin 0 .and (.int .i64 (p:Int)) (.int .i64 (q:Int))) k).awp P h Q:=by
 have e:eY .and (.int .i64 (p:Int)) (.int .i64 (q:Int))=some (.int .i64 ((p &&& q:Nat):Int)):=by
  have h1:(BitVec.ofInt 64 (p:Int) &&& BitVec.ofInt 64 (q:Int)).toNat=p &&& q:=by rw[BitVec.toNat_and,Ic hp,Ic hq]
  have h2:p &&& q≤p:=Nat.and_le_left
  show(if IntKind.i64=IntKind.i64 then some (AV.int .i64 (IntKind.i64.wrap ((BitVec.ofInt 64 (p:Int) &&& BitVec.ofInt 64 (q:Int)).toNat:Int))) else none)=_
  rw[if_pos rfl,h1,kJ (by omega) (by omega)]
 simp only[Prog.awp,AOp.go,fI,e];exact hk
theorem WH {a:Int} (hk:(k (.int .i64 (((BitVec.ofInt 64 a).toNat % 65536:Nat):Int))).awp P h Q):(Prog.op (.bin 0 .and (.int .i64 a) (.int .i64 65535)) k).awp P h Q:=by
 have e:eY .and (.int .i64 a) (.int .i64 65535)=some (.int .i64 (((BitVec.ofInt 64 a).toNat % 65536:Nat):Int)):=by
  have h1:(BitVec.ofInt 64 a &&& BitVec.ofInt 64 65535).toNat=(BitVec.ofInt 64 a).toNat % 65536:=by
   rw[BitVec.toNat_and,show(BitVec.ofInt 64 65535).toNat=2 ^ 16 - 1 by decide,Nat.and_two_pow_sub_one_eq_mod]
  show(if IntKind.i64=IntKind.i64 then some (AV.int .i64 (IntKind.i64.wrap ((BitVec.ofInt 64 a &&& BitVec.ofInt 64 65535).toNat:Int))) else none)=_
  rw[if_pos rfl,h1,kJ (by omega) (by omega)]
 simp only[Prog.awp,AOp.go,fI,e];exact hk
theorem zJ {p q:Nat} (hp:p < 4294967296) (hq:q < 4294967296) (hk:(k (.int .i64 ((p ^^^ q:Nat):Int))).awp P h Q):(Prog.op (.bin 0 .xor (.int .i64 (p:Int)) (.int .i64 (q:Int))) k).awp P h Q:=by
 have e:eY .xor (.int .i64 (p:Int)) (.int .i64 (q:Int))=some (.int .i64 ((p ^^^ q:Nat):Int)):=by
  have h1:(BitVec.ofInt 64 (p:Int) ^^^ BitVec.ofInt 64 (q:Int)).toNat=p ^^^ q:=by rw[BitVec.toNat_xor,Ic (by omega),Ic (by omega)]
  have h2:p ^^^ q < 2 ^ 32:=Nat.xor_lt_two_pow hp hq
  show(if IntKind.i64=IntKind.i64 then some (AV.int .i64 (IntKind.i64.wrap ((BitVec.ofInt 64 (p:Int) ^^^ BitVec.ofInt 64 (q:Int)).toNat:Int))) else none)=_
  rw[if_pos rfl,h1,kJ (by omega) (by omega)]
 simp only[Prog.awp,AOp.go,fI,e];exact hk
theorem WG {p:Nat} (hp:p < 65536) (hk:(k (.int .i64 ((p * 128:Nat):Int))).awp P h Q):(Prog.op (.bin 0 .shl (.int .i64 (p:Int)) (.int .u64 7)) k).awp P h Q:=by
 have e:eY .shl (.int .i64 (p:Int)) (.int .u64 7)=some (.int .i64 ((p * 128:Nat):Int)):=by
  show(if(7:Int) < 0 then none else some (AV.int .i64 (IntKind.i64.wrap ((p:Int) * 2 ^ (min (7:Int).toNat IntKind.i64.bits)))))=_
  rw[if_neg (by decide),show(2:Int) ^ (min (7:Int).toNat IntKind.i64.bits)=128 by decide,kJ (by omega) (by omega)]
  simp
 simp only[Prog.awp,AOp.go,fI,e];exact hk
theorem WE {p:Nat} (hp:p < 65536) (hk:(k (.int .i64 ((p * 256:Nat):Int))).awp P h Q):(Prog.op (.bin 0 .shl (.int .i64 (p:Int)) (.int .u64 8)) k).awp P h Q:=by
 have e:eY .shl (.int .i64 (p:Int)) (.int .u64 8)=some (.int .i64 ((p * 256:Nat):Int)):=by
  show(if(8:Int) < 0 then none else some (AV.int .i64 (IntKind.i64.wrap ((p:Int) * 2 ^ (min (8:Int).toNat IntKind.i64.bits)))))=_
  rw[if_neg (by decide),show(2:Int) ^ (min (8:Int).toNat IntKind.i64.bits)=256 by decide,kJ (by omega) (by omega)]
  simp
 simp only[Prog.awp,AOp.go,fI,e];exact hk
theorem WC {p:Nat} (hk:(k (.int .i64 ((p / 512:Nat):Int))).awp P h Q):(Prog.op (.bin 0 .shr (.int .i64 (p:Int)) (.int .u64 9)) k).awp P h Q:=by
 have e:eY .shr (.int .i64 (p:Int)) (.int .u64 9)=some (.int .i64 ((p / 512:Nat):Int)):=by
  show(if(9:Int) < 0 then none else some (AV.int .i64 ((p:Int).fdiv (2 ^ (min (9:Int).toNat IntKind.i64.bits)))))=_
  rw[if_neg (by decide),show(2:Int) ^ (min (9:Int).toNat IntKind.i64.bits)=512 by decide,Int.fdiv_eq_ediv_of_nonneg _ (by decide),show(p:Int) / 512=((p / 512:Nat):Int) by omega]
 simp only[Prog.awp,AOp.go,fI,e];exact hk
end
def jN (n:Int):Nat:=(BitVec.ofInt 64 n).toNat % 65536
def qw (a:Nat):Nat:=a ^^^ (a * 128) % 65536
def Dp (a:Nat):Nat:=a ^^^ a / 512
def akP (a:Nat):Nat:=a ^^^ (a * 256) % 65536
def mix (n:Int):Nat:=akP (Dp (qw (jN n)))
theorem VR (n:Int):jN n < 65536:=Nat.mod_lt _ (by decide)
theorem VQ {a:Nat} (h:a < 65536):qw a < 65536:=Nat.xor_lt_two_pow (n:=16) h (Nat.mod_lt _ (by decide))
theorem VP {a:Nat} (h:a < 65536):Dp a < 65536:=Nat.xor_lt_two_pow (n:=16) h (by omega)
theorem afy {h:AH} {n:Int}:aP Tryz.prog Gc [.int .i64 n] h (.int .i64 (mix n:Nat)):=by
 refine reader (afV _) (by simp only[old]) ?_
 unfold TM
 have l0:=VR n
 have l1:=VQ l0
 have l2:=VP l1
 refine WH ?_
 rw[show(BitVec.ofInt 64 n).toNat % 65536=jN n from rfl]
 refine WG l0 (Hy (q:=65535) (by omega) (by decide) (zJ (by omega) ?_ ?_))
 ·exact Nat.lt_of_le_of_lt Nat.and_le_right (by decide)
 rw[Nat.and_two_pow_sub_one_eq_mod (n:=16),show jN n ^^^ jN n * 128 % 2 ^ 16=qw (jN n) from rfl]
 refine WC (zJ (by omega) (by omega) ?_)
 rw[show qw (jN n) ^^^ qw (jN n) / 512=Dp (qw (jN n)) from rfl]
 refine WE l2 (Hy (q:=65535) (by omega) (by decide) (zJ (by omega) ?_ ?_))
 ·exact Nat.lt_of_le_of_lt Nat.and_le_right (by decide)
 rw[Nat.and_two_pow_sub_one_eq_mod (n:=16)]
 exact jB (pi rfl)
theorem afx {h:AH} {n:Int}:aP Tryz.prog Gb [.int .i64 n] h (.int .i64 (mix n:Nat)):=by
 refine reader (afR _) (by simp only[old]) ?_
 unfold TG
 have l0:=VR n
 have l1:=VQ l0
 have l2:=VP l1
 have x1:∀ a:Nat,a < 65536→(a ^^^ (a * 128)) < 4294967296:=fun a ha=>Nat.xor_lt_two_pow (n:=32) (by omega) (by omega)
 have x2:∀ a:Nat,a < 65536→(a ^^^ (a * 256)) < 4294967296:=fun a ha=>Nat.xor_lt_two_pow (n:=32) (by omega) (by omega)
 have y1:=x1 _ l0
 have y2:=x2 _ l2
 refine WH ?_
 rw[show(BitVec.ofInt 64 n).toNat % 65536=jN n from rfl]
 refine WG l0 (zJ (by omega) (by omega) (Hy (q:=65535) (by omega) (by decide) ?_))
 rw[Nat.and_two_pow_sub_one_eq_mod (n:=16),Nat.xor_mod_two_pow,Nat.mod_eq_of_lt (a:=jN n) (b:=2 ^ 16) l0,show jN n ^^^ jN n * 128 % 2 ^ 16=qw (jN n) from rfl]
 refine WC (zJ (by omega) (by omega) ?_)
 rw[show qw (jN n) ^^^ qw (jN n) / 512=Dp (qw (jN n)) from rfl]
 refine WE l2 (zJ (by omega) (by omega) (Hy (q:=65535) (by omega) (by decide) ?_))
 rw[Nat.and_two_pow_sub_one_eq_mod (n:=16),Nat.xor_mod_two_pow,Nat.mod_eq_of_lt (a:=Dp (qw (jN n))) (b:=2 ^ 16) l2]
 exact jB (pi rfl)
def stripe (t n:Int):Int:=if n < 1 then 0 else((mix t:Nat):Int).tmod n
theorem jg {t n:Int} (hn:1≤n):0≤stripe t n∧stripe t n < n:=by
 unfold stripe
 rw[if_neg (by omega)]
 exact⟨Int.tmod_nonneg _ (by omega),Int.tmod_lt_of_pos _ (by omega)⟩
theorem JW {h:AH} {t n:Int}:aP Tryz.prog rJ [.int .i64 t,.int .i64 n] h (.int .i64 (stripe t n)):=by
 refine reader (abN _ _) (by simp only[old]) ?_
 unfold Pz
 (repeat' first|refine vs ?_|(refine br ?_ ?_<;>first|exact bx|intro _)|((with_reducible refine aG Gc ?_);refine aQ afy ?_)|fail)
 ·exact pi (by unfold stripe;rw[if_pos (by assumption)])
 ·refine CQ (by omega) (jB (pi ?_))
  unfold stripe;rw[if_neg (by assumption)]
theorem jd {h:AH} {t n:Int}:aP Tryz.prog fO [.int .i64 t,.int .i64 n] h (.int .i64 (stripe t n)):=by
 refine reader (aby _ _) (by simp only[old]) ?_
 unfold Pb
 (repeat' first|refine vs ?_|(refine br ?_ ?_<;>first|exact bx|intro _)|((with_reducible refine aG Gb ?_);refine aQ afx ?_)|fail)
 ·exact pi (by unfold stripe;rw[if_pos (by assumption)])
 ·refine CQ (by omega) (jB (pi ?_))
  unfold stripe;rw[if_neg (by assumption)]
def bJ (t:Task) (n:Int):Int:=if n < 1 then -1 else if t.op=1∧t.pc=1 then stripe t.s.trace n else if(t.op=1∧t.pc=3)∨(t.op=2∧(t.pc=1∨t.pc=2)) then stripe t.trace n else -1
theorem yB {h:AH} {t:Task} {n:Int} {v v':AV}:aP Tryz.prog qz [.agg (t.cs v v'),.int .i64 n] h (.int .i64 (bJ t n)):=by
 refine reader (aad _ _) (by simp only[old]) ?_
 unfold Oj
 (repeat' first|refine vs ?_|(refine br ?_ ?_<;>first|exact bo|intro _)|((with_reducible refine aG rJ ?_);refine aQ JW ?_)|refine gS ?_|fail)
 all_goals(refine pi ?_;simp[bJ, *])
def zA (t:Trail):Prop:=(∀ s∈t.spans,sV s∧s.trace=t.id)∧(1≤t.id∧t.id≤999)∧1≤t.stamp∧(0≤t.first∧t.first≤2147483647)∧0 < (t.spans.length:Int)
theorem acj {h:AH} {t:Trail} {v:AV} {F:List Nat} (ok:∀ x∈t.spans,Cel.ok x) (hs:Sz.sz t≤67108864) (r:ah h v t.spans F):aP Tryz.prog EX [.agg (t.cs v)] h (.bool (bp (zA t))):=by
 refine reader (ac4 _) (by simp only[old]) ?_
 unfold QG
 have hsz:Sz.sz t=t.spans.length+szs t.spans:=rfl
 refine vs ?_
 refine aX t.spans.length (fun i vs h1=>vs=[.int .i64 (i:Int)]∧i≤t.spans.length∧Ext (h.push ⟨t.cs v,0,0⟩) h1∧eZ t.spans (fun _ s=>sV s∧s.trace=t.id) i) ⟨rfl,Nat.zero_le _,aI,up0⟩ ?_
 rintro i vs h1 _ ⟨rfl,hi,e1,hu⟩
 simp only[g0]
 refine br (fun hlt=>?_) (fun hge=>?_)
 ·obtain⟨x,hx,-,-⟩:=aU (show i < t.spans.length by omega)
  have hm:=List.mem_of_getElem? hx
  have h5:=dh hm
  (repeat' first|refine vs ?_|(refine br ?_ ?_<;>first|exact bx|intro _)|((with_reducible refine aG uI ?_);(refine bC (Kv (ok x hm) (by omega) aB) ?_ ?_<;>intro hn))|((with_reducible refine bB ?_);((refine ix ?_);rintro _ _ _ _ _ ⟨_,rfl,_⟩ _))|fail)
  all_goals first
   |exact pf fun k=>nN hx (by rintro⟨a1,a2⟩;contradiction) k.1
   |exact⟨by omega,rfl,by omega,aI,upS hu hx ⟨hn,by omega⟩⟩
 ·have e:i=t.spans.length:=by omega
  rw[e] at hu
  have hu:=jV hu
  (repeat' first|refine vs ?_|(refine br ?_ ?_<;>first|exact bx|intro _)|((with_reducible refine aG bT ?_);(refine dS jG ?_ ?_<;>intro hb<;>first|replace hb:=fE hb|replace hb:=fG hb))|fail)
  all_goals first
   |exact pt ⟨hu,by omega,by omega,by omega,by omega⟩
   |exact pf fun k=>by obtain⟨a1,a2,a3,a4,a5⟩:=k;omega
def fits (c:iQ) (s:Span):Prop:=sV s∧dR s≤c.budget
theorem SV {h:AH} {c:iQ} {s:Span} {v v':AV} {F:List Nat} (ok:Cel.ok s) (hs:Sz.sz s≤67108864) (r:ah h v' s.attrs F):aP Tryz.prog Bp [.agg (c.cs v),.agg (s.cs v')] h (.bool (bp (fits c s))):=by
 refine reader (afh _ _) (by simp only[old]) ?_
 unfold SY
 (repeat' first|refine vs ?_|(refine br ?_ ?_<;>first|exact bx|intro _)|((with_reducible refine aG Fw ?_);(refine bC (adp ok hs aB) ?_ ?_<;>intro hn))|((with_reducible refine aG jO ?_);refine aQ (rO hs aB) ?_)|fail)
 all_goals first
  |exact pt ⟨by assumption,by omega⟩
  |exact pf fun k=>by obtain⟨a1,a2⟩:=k;contradiction
end Go.Proofs.YtcgjihfngdhjjaaGreat
end
section
set_option maxHeartbeats 1000000
namespace Go.Proofs.YtcgjihfngdhjjaaGreat
open Go Go.Ab
section
def Py (x0:AV):Prog:=.op (.box x0) fun a=>.op (.alloc jT) fun b=>Lg 5 a fun c=>.op (.app 4 48 .aA c) fun c=>Sg 5 a c fun _=>Ld 6 a fun a=>.op (.st 6 b a) fun _=>.fin [.cn 6 b]
theorem abM (x0:AV):CC Tryz.prog J7 [x0] (Py x0):=cc Tryz.func93
def Rl (x0:AV):Prog:=.op (.box x0) fun a=>.op (.alloc jT) fun b=>.op (.aS 4 0 [] []) fun c=>Lg 5 a fun d=>.op (.app 4 48 c d) fun c=>Sg 5 a c fun _=>Ld 6 a fun a=>.op (.st 6 b a) fun _=>.fin [.cn 6 b]
theorem adN (x0:AV):CC Tryz.prog kH [x0] (Rl x0):=cc Tryz.func165
def aaM (x0:AV):Prog:=Ln 0 x0 fun a=>.loop [.aA,.int .i64 0] (fun b=>Bn .lss (g b 1) a fun a=>.ite a (Ix 6 x0 (g b 1) fun a=>Ld 6 a fun a=>.op (.alloc jT) fun c=>.op (.st 6 c a) fun _=>Ld 6 c fun a=>Cl J7 [a] fun a=>.op (.aS 6 1 jT [(0,6,a)]) fun a=>.op (.app 6 64 (g b 0) a) fun a=>Bn .add (g b 1) (.int .i64 1) fun b=>.leaf 0 [a,b]) (.leaf 2 [g b 0,g b 1])) fun a b=>aC a 1 (.leaf 1 b) (aC a 2 (.fin [.val (g b 0)]) .bad)
theorem aaZ (x0:AV):CC Tryz.prog Ep [x0] (aaM x0):=cc Tryz.func121 [3,6,7,8] (fun _=>[])
def aeC (x0:AV):Prog:=.op (.aS 6 0 [] []) fun a=>.loop [a,.int .i64 0] (fun a=>Ln 0 x0 fun b=>Bn .lss (g a 1) b fun b=>.ite b (Ix 6 x0 (g a 1) fun b=>Ld 6 b fun b=>Cl kH [b] fun b=>.op (.alloc jT) fun c=>.op (.st 6 c b) fun _=>Ld 6 c fun b=>.op (.aS 6 1 jT [(0,6,b)]) fun b=>.op (.app 6 64 (g a 0) b) fun b=>Bn .add (g a 1) (.int .i64 1) fun a=>.leaf 0 [b,a]) (.leaf 2 [g a 0,g a 1])) fun a b=>aC a 1 (.leaf 1 b) (aC a 2 (.fin [.val (g b 0)]) .bad)
theorem aeH (x0:AV):CC Tryz.prog FP [x0] (aeC x0):=cc Tryz.func266 [0,3,4] (fun _=>[])
def OM (x0:AV):Prog:=.op (.box x0) fun a=>.op (.alloc [.int .i64 0,.int .i64 0,.int .i64 0,.aA]) fun b=>Lg 3 a fun c=>Cl Ep [c] fun c=>Sg 3 a c fun _=>Ld 4 a fun a=>.op (.st 4 b a) fun _=>.fin [.cn 4 b]
theorem aaY (x0:AV):CC Tryz.prog AQ [x0] (OM x0):=cc Tryz.func57
def Qo (x0:AV):Prog:=.op (.box x0) fun a=>.op (.alloc [.int .i64 0,.int .i64 0,.int .i64 0,.aA]) fun b=>Lg 3 a fun c=>Cl FP [c] fun c=>Sg 3 a c fun _=>Ld 4 a fun a=>.op (.st 4 b a) fun _=>.fin [.cn 4 b]
theorem acN (x0:AV):CC Tryz.prog wu [x0] (Qo x0):=cc Tryz.func256
def aar (x0:AV):Prog:=Ln 0 x0 fun a=>.loop [.aA,.int .i64 0] (fun b=>Bn .lss (g b 1) a fun a=>.ite a (Ix 4 x0 (g b 1) fun a=>Ld 4 a fun a=>.op (.alloc [.int .i64 0,.int .i64 0,.int .i64 0,.aA]) fun c=>.op (.st 4 c a) fun _=>Ld 4 c fun a=>Cl AQ [a] fun a=>.op (.aS 4 1 [.int .i64 0,.int .i64 0,.int .i64 0,.aA] [(0,4,a)]) fun a=>.op (.app 4 48 (g b 0) a) fun a=>Bn .add (g b 1) (.int .i64 1) fun b=>.leaf 0 [a,b]) (.leaf 2 [g b 0,g b 1])) fun a b=>aC a 1 (.leaf 1 b) (aC a 2 (.fin [.val (g b 0)]) .bad)
theorem aaz (x0:AV):CC Tryz.prog Ei [x0] (aar x0):=cc Tryz.func115 [3,6,7,8] (fun _=>[])
def adE (x0:AV):Prog:=.op (.aS 4 0 [] []) fun a=>.loop [a,.int .i64 0] (fun a=>Ln 0 x0 fun b=>Bn .lss (g a 1) b fun b=>.ite b (Ix 4 x0 (g a 1) fun b=>Ld 4 b fun b=>Cl wu [b] fun b=>.op (.alloc [.int .i64 0,.int .i64 0,.int .i64 0,.aA]) fun c=>.op (.st 4 c b) fun _=>Ld 4 c fun b=>.op (.aS 4 1 [.int .i64 0,.int .i64 0,.int .i64 0,.aA] [(0,4,b)]) fun b=>.op (.app 4 48 (g a 0) b) fun b=>Bn .add (g a 1) (.int .i64 1) fun a=>.leaf 0 [b,a]) (.leaf 2 [g a 0,g a 1])) fun a b=>aC a 1 (.leaf 1 b) (aC a 2 (.fin [.val (g b 0)]) .bad)
theorem adV (x0:AV):CC Tryz.prog wF [x0] (adE x0):=cc Tryz.func223 [0,3,4] (fun _=>[])
def Qn (x0:AV):Prog:=.op (.aS 2 0 [] []) fun a=>.loop [a,.int .i64 0] (fun a=>Ln 0 x0 fun b=>Bn .lss (g a 1) b fun b=>.ite b (Ix 2 x0 (g a 1) fun b=>.op (.fad 0 b) fun b=>.op (.ld1 b) fun c=>Ix 2 x0 (g a 1) fun d=>Lg 1 d fun d=>Cl wF [d] fun d=>.chk (.ld1 b) c (.op (.build [.int .i64 0,.aA] [(0,1,c),(1,1,d)]) fun b=>.op (.aS 2 1 [.int .i64 0,.aA] [(0,2,b)]) fun b=>.op (.app 2 32 (g a 0) b) fun b=>Bn .add (g a 1) (.int .i64 1) fun a=>.leaf 0 [b,a])) (.leaf 2 [g a 0,g a 1])) fun a b=>aC a 1 (.leaf 1 b) (aC a 2 (.fin [.val (g b 0)]) .bad)
theorem acM (x0:AV):CC Tryz.prog EO [x0] (Qn x0):=cc Tryz.func156 [0,3,4] (fun r=>if r=5 then[(0,[]),(1,[]),(2,[]),(3,[]),(4,[]),(5,[]),(6,[]),(7,[]),(8,[]),(9,[]),(10,[]),(11,[5]),(12,[]),(13,[]),(14,[]),(15,[])] else[])
end
theorem abm (x:Span) (hs:Sz.sz x≤67108864):mP Span Tryz.prog J7 x:=by
 rintro cs F h ⟨v0,rfl,r0⟩
 have hs:(x.attrs.length+szs x.attrs)≤67108864:=hs
 refine abM _ ?_
 unfold Py
 (repeat' first|refine vs ?_|fail)
 refine app0 (n:=h.n+2) (ys:=x.attrs) (Fy:=F) aB (zn (α:=Attr) r0 _) aV rfl (by omega) ?_
 intro u h' F' e r' o'
 have n1:=e.1
 simp only[aJ] at n1
 (repeat' first|refine vs ?_|fail)
 exact⟨rfl,_,rfl,aI,_,_,rfl,⟨_,rfl,aB⟩,aY⟩
theorem qC (x:Span) (hs:Sz.sz x≤67108864):mP Span Tryz.prog kH x:=by
 rintro cs F h ⟨v0,rfl,r0⟩
 have hs:(x.attrs.length+szs x.attrs)≤67108864:=hs
 refine adN _ ?_
 unfold Rl
 (repeat' first|refine vs ?_|fail)
 refine DT (n:=h.n+2) (ys:=x.attrs) (Fy:=F) aB (zn (α:=Attr) r0 _) aV rfl (by omega) ?_
 intro u h' F' e r' o'
 have n1:=e.1
 simp only[aJ] at n1
 (repeat' first|refine vs ?_|fail)
 exact⟨rfl,_,rfl,aI,_,_,rfl,⟨_,rfl,aB⟩,aY⟩
theorem aaI (xs:List Span) (hs:xs.length+szs xs≤67108864):vN Tryz.prog Ep xs:=fun v F h r=>
 aaZ _ (Uo rfl rfl (by decide) (fun x hx=>abm x (by have:=dh hx;omega)) r (by omega))
theorem aen (xs:List Span) (hs:xs.length+szs xs≤67108864):vN Tryz.prog FP xs:=fun v F h r=>
 aeH _ (Li rfl rfl (by decide) (fun x hx=>qC x (by have:=dh hx;omega)) r (by omega))
theorem Oy (x:Trail) (hs:Sz.sz x≤67108864):mP Trail Tryz.prog AQ x:=by
 rintro cs F h ⟨v0,rfl,r0⟩
 have hs:(x.spans.length+szs x.spans)≤67108864:=hs
 refine aaY _ ?_
 unfold OM
 (repeat' first|refine vs ?_|((with_reducible refine aG Ep ?_);(refine aL (aaI _ hs _ _ _ aB) ?_;rintro _ _ ⟨e_,_,_,_⟩;have n_:=e_.1;(try simp only[aJ,aN] at n_)))|fail)
 exact⟨rfl,_,rfl,aI,_,_,rfl,⟨_,rfl,aB⟩,aY⟩
theorem J8 (x:Trail) (hs:Sz.sz x≤67108864):mP Trail Tryz.prog wu x:=by
 rintro cs F h ⟨v0,rfl,r0⟩
 have hs:(x.spans.length+szs x.spans)≤67108864:=hs
 refine acN _ ?_
 unfold Qo
 (repeat' first|refine vs ?_|((with_reducible refine aG FP ?_);(refine aL (aen _ hs _ _ _ aB) ?_;rintro _ _ ⟨e_,_,_,_⟩;have n_:=e_.1;(try simp only[aJ,aN] at n_)))|fail)
 exact⟨rfl,_,rfl,aI,_,_,rfl,⟨_,rfl,aB⟩,aY⟩
theorem aah (xs:List Trail) (hs:xs.length+szs xs≤67108864):vN Tryz.prog Ei xs:=fun v F h r=>
 aaz _ (Uo rfl rfl (by decide) (fun x hx=>Oy x (by have:=dh hx;omega)) r (by omega))
theorem Fj (xs:List Trail) (hs:xs.length+szs xs≤67108864):vN Tryz.prog wF xs:=fun v F h r=>
 adV _ (Li rfl rfl (by decide) (fun x hx=>J8 x (by have:=dh hx;omega)) r (by omega))
theorem PU (xs:List aR) (hs:xs.length+szs xs≤67108864):vN Tryz.prog EO xs:=by
 intro v F h r
 refine acM _ ?_
 unfold Qn
 have hsm:=r.small
 obtain⟨re,oe⟩:=gu (h:=h) (α:=aR) (w:=2) rfl
 refine vs ?_
 refine aX xs.length (fun i vs h1=>∃ u G,vs=[u,.int .i64 (i:Int)]∧i≤xs.length∧Ext h h1∧ah h1 u (xs.take i) G∧Own h.n h1 G) ⟨_,_,rfl,Nat.zero_le _,(Ext.refl _).push _,by rw[List.take_zero];exact re,oe _ (Nat.le_refl _)⟩ ?_
 rintro i vs h1 _ ⟨u,G,rfl,hi,e1,ru,ou⟩
 have n1:=e1.1
 simp only[g0,g1]
 refine eG r ?_
 refine br (fun hlt=>?_) (fun hge=>?_)
 ·obtain⟨x,hx,-,htk⟩:=aU (show i < xs.length by omega)
  have hm:=dh (List.mem_of_getElem? hx)
  have hx2:Sz.sz x=x.l.length+szs x.l:=rfl
  (repeat' first|refine vs ?_|((with_reducible refine aG wF ?_);(refine aL (Fj x.l (by omega) _ _ _ aB) ?_;rintro w2 h2 ⟨e2,G2,q2,o2⟩;have n2:=e2.1;(try simp only[aJ,aN] at n2)))|((with_reducible refine bB ?_);((refine ix ?_);rintro _ _ _ _ _ ⟨_,rfl,_⟩ _))|fail)
  have hlen:(xs.take i).length=i:=by rw[List.length_take];omega
  refine app1 (n:=h.n) (xs:=xs.take i) (Fx:=G) (a:=x) aB ⟨_,rfl,q2⟩ (iK (aY) o2 (by omega) ng) aV rfl ?_ ?_ ?_
  ·rw[hlen];omega
  ·rw[hlen];omega
  intro u' h' F' ek kp r' o'
  (repeat' first|refine vs ?_|fail)
  exact⟨by omega,u',F',rfl,by omega,ek h aI (Nat.le_refl _),by rw[htk];exact r',o'⟩
 ·(repeat' first|refine vs ?_|fail)
  exact⟨rfl,u,rfl,e1,G,by rw[show i=xs.length by omega,List.take_length] at ru;exact ru,ou⟩
end Go.Proofs.YtcgjihfngdhjjaaGreat
end
section
set_option maxHeartbeats 1000000
namespace Go.Proofs.YtcgjihfngdhjjaaGreat
open Go Go.Ab
section
def OO (x0:AV):Prog:=Ln 0 x0 fun a=>.loop [.aA,.int .i64 0] (fun b=>Bn .lss (g b 1) a fun a=>.ite a (Ix 2 x0 (g b 1) fun a=>Ld 2 a fun a=>.op (.alloc [.int .i64 0,.aA]) fun c=>.op (.st 2 c a) fun _=>Lg 1 c fun a=>Cl Ei [a] fun a=>.op (.app 4 48 (g b 0) a) fun a=>Bn .add (g b 1) (.int .i64 1) fun b=>.leaf 0 [a,b]) (.leaf 2 [g b 0,g b 1])) fun a b=>aC a 1 (.leaf 1 b) (aC a 2 (.fin [.val (g b 0)]) .bad)
theorem aa0 (x0:AV):CC Tryz.prog AU [x0] (OO x0):=cc Tryz.func52 [3,6,7,8] (fun _=>[])
def OU (x0:AV):Prog:=Cl AU [x0] fun a=>Ln 0 a fun b=>.loop [.int .i64 0,.int .i64 0] (fun c=>Bn .lss (g c 1) b fun b=>.ite b (Ix 4 a (g c 1) fun a=>Ld 4 a fun a=>.op (.alloc [.int .i64 0,.int .i64 0,.int .i64 0,.aA]) fun b=>.op (.st 4 b a) fun _=>Ld 4 b fun a=>Cl E9 [a] fun a=>Bn .add (g c 0) a fun a=>Bn .add (g c 1) (.int .i64 1) fun b=>.leaf 0 [a,b]) (.leaf 2 [g c 0,g c 1])) fun a b=>aC a 1 (.leaf 1 b) (aC a 2 (.fin [.val (g b 0)]) .bad)
theorem aa4 (x0:AV):CC Tryz.prog Es [x0] (OU x0):=cc Tryz.func104 [3,7,8,9] (fun _=>[])
end
def allT (l:List aR):List Trail:=l.flatMap (·.l)
theorem Ih {l:List aR} {i:Nat} {x:aR} (ht:l.take (i+1)=l.take i++[x]):allT (l.take (i+1))=allT (l.take i)++x.l:=by rw[ht];simp[allT]
theorem zB {α:Type} [Sz α]:∀ l r:List α,szs (l++r)=szs l+szs r
 |[],r=>by simp[szs]
 |x::l,r=>by simp only[List.cons_append,szs,zB l];omega
theorem CU:∀ l:List aR,(allT l).length+szs (allT l)≤szs l
 |[]=>by simp[allT,szs]
 |x::l=>by
  have:=CU l
  have e:allT (x::l)=x.l++allT l:=by simp[allT]
  have h2:Sz.sz x=x.l.length+szs x.l:=rfl
  rw[e,List.length_append,zB];simp only[szs];omega
theorem JK {h:AH} {l:List aR} {v:AV} {F:List Nat} (hs:l.length+szs l≤67108864) (r:ah h v l F):bq Tryz.prog AU [v] h (rF Trail h (allT l)):=by
 refine aa0 _ ?_
 unfold OO
 have hsm:=r.small
 refine eG r ?_
 refine aX l.length (fun i vs h1=>∃ u G,vs=[u,.int .i64 (i:Int)]∧i≤l.length∧Ext h h1∧ah h1 u (allT (l.take i)) G∧Own h.n h1 G) ⟨.aA,[],rfl,Nat.zero_le _,Ext.refl _,ah.aA,Own.nil⟩ ?_
 rintro i vs h1 _ ⟨u,G,rfl,hi,e1,ru,ou⟩
 have n1:=e1.1
 simp only[g0,g1]
 have hlen:=CU (l.take i)
 have hle:=mX l i
 refine br (fun hlt=>?_) (fun hge=>?_)
 ·obtain⟨x,hx,-,htk⟩:=aU (show i < l.length by omega)
  have hm:=dh (List.mem_of_getElem? hx)
  have hx2:Sz.sz x=x.l.length+szs x.l:=rfl
  refine vs ?_
  refine dw r hx rfl ?_
  rintro b o _ Fi a ⟨v0,rfl,r0⟩ _
  (repeat' first|refine vs ?_|((with_reducible refine aG Ei ?_);(refine aL (aah x.l (by omega) _ _ _ aB) ?_;rintro w2 h2 ⟨e2,G2,q2,o2⟩;have n2:=e2.1;(try simp only[aJ,aN] at n2)))|fail)
  refine akg (n:=h.n) (xs:=allT (l.take i)) (ys:=x.l) (Fx:=G) (Fy:=G2) aB q2 (iK (aY) o2 aV ng) aV rfl ?_ ?_ ?_
  ·omega
  ·omega
  intro u' h' F' ek kp r' o'
  (repeat' first|refine vs ?_|fail)
  exact⟨by omega,u',F',rfl,by omega,ek h aI (Nat.le_refl _),by rw[Ih htk];exact r',o'⟩
 ·(repeat' first|refine vs ?_|fail)
  exact⟨rfl,u,rfl,e1,G,by rw[show i=l.length by omega,List.take_length] at ru;exact ru,ou⟩
def dW (t:Trail):Int:=bD dR t.spans
theorem R5 (t:Trail):0≤dW t∧dW t≤0+12 * (Sz.sz t:Nat):=by
 have h:=vw wI t.spans
 have h2:Sz.sz t=t.spans.length+szs t.spans:=rfl
 unfold dW;omega
def held (l:List aR):Int:=bD dW (allT l)
theorem ahO (l:List Trail):0≤bD dW l∧bD dW l≤12 * (szs l:Nat):=by
 have h:=vw R5 l;omega
theorem aaK {h:AH} {l:List aR} {v:AV} {F:List Nat} (hs:l.length+szs l≤67108864) (r:ah h v l F):aP Tryz.prog Es [v] h (.int .i64 (held l)):=by
 refine reader (aa4 _) (by simp only[old]) ?_
 unfold OU
 refine aL (JK hs r) ?_
 rintro w1 h1 ⟨e1,G1,q1,o1⟩
 have hall:=CU l
 refine eG q1 ?_
 refine aX (allT l).length (fun i vs h2=>vs=[.int .i64 (bD dW ((allT l).take i)),.int .i64 (i:Int)]∧i≤(allT l).length∧Ext h1 h2) ⟨by simp[bD],Nat.zero_le _,Ext.refl _⟩ ?_
 rintro i vs h2 _ ⟨rfl,hi,e2⟩
 simp only[g0,g1]
 have hb:=ahO ((allT l).take i)
 have hle:=mX (allT l) i
 refine br (fun hlt=>?_) (fun hge=>?_)
 ·obtain⟨x,hx,-,htk⟩:=aU (show i < (allT l).length by omega)
  have hm:=dh (List.mem_of_getElem? hx)
  have hxb:=R5 x
  refine vs ?_
  refine dw q1 hx rfl ?_
  rintro b o _ Fi a ⟨v0,rfl,r0⟩ _
  (repeat' first|refine vs ?_|((with_reducible refine aG E9 ?_);refine aQ (acs (by omega) aB) ?_)|fail)
  refine sQ (by unfold dW at *;omega) (by unfold dW at *;omega) ?_
  (repeat' first|refine vs ?_|fail)
  exact⟨by omega,by rw[rZ _ htk];rfl,by omega,aI⟩
 ·(repeat' first|refine vs ?_|fail)
  refine pi ?_ (e1.trans e2)
  rw[show i=(allT l).length by omega,List.take_length];rfl
end Go.Proofs.YtcgjihfngdhjjaaGreat
end
section
set_option maxHeartbeats 1000000
namespace Go.Proofs.YtcgjihfngdhjjaaGreat
open Go Go.Ab
section
def OV (x0 x1:AV):Prog:=.op (.alloc [.int .i64 0,.int .i64 0,.int .i64 0,.aA]) fun a=>Ln 0 x0 fun b=>Bn .eql b (.int .i64 0) fun b=>.ite b (.op (.build [.int .i64 0,.int .i64 0,.int .i64 0,.aA] []) fun b=>.op (.st 4 a b) fun _=>.fin [.cn 4 a,.val (.bool false)]) (Ln 0 x0 fun b=>Cl rJ [x1,b] fun b=>Ix 2 x0 b fun b=>Ld 2 b fun b=>.op (.alloc [.int .i64 0,.aA]) fun c=>.op (.st 2 c b) fun _=>Lg 1 c fun b=>Cl EY [b,x1] fun b=>Bn .lss b (.int .i64 0) fun d=>.ite d (.op (.build [.int .i64 0,.int .i64 0,.int .i64 0,.aA] []) fun b=>.op (.st 4 a b) fun _=>.fin [.cn 4 a,.val (.bool false)]) (Lg 1 c fun c=>Ix 4 c b fun b=>Ld 4 b fun b=>Cl AQ [b] fun b=>.op (.st 4 a b) fun _=>.fin [.cn 4 a,.val (.bool true)]))
theorem aa5 (x0 x1:AV):CC Tryz.prog Et [x0,x1] (OV x0 x1):=cc Tryz.func20
def OC (x0 x1:AV):Prog:=.op (.alloc [.int .i64 0,.int .i64 0,.int .i64 0,.aA]) fun a=>Ln 0 x0 fun b=>Bn .eql b (.int .i64 0) fun b=>.ite b (.op (.build [.int .i64 0,.int .i64 0,.int .i64 0,.aA] []) fun b=>.op (.st 4 a b) fun _=>.fin [.cn 4 a,.val (.bool false)]) (Ln 0 x0 fun b=>Cl fO [x1,b] fun b=>Ix 2 x0 b fun b=>Ld 2 b fun b=>.op (.alloc [.int .i64 0,.aA]) fun c=>.op (.st 2 c b) fun _=>Lg 1 c fun b=>Cl yG [b,x1] fun b=>Bn .lss b (.int .i64 0) fun d=>.ite d (.op (.build [.int .i64 0,.int .i64 0,.int .i64 0,.aA] []) fun b=>.op (.st 4 a b) fun _=>.fin [.cn 4 a,.val (.bool false)]) (Lg 1 c fun c=>Ix 4 c b fun b=>Ld 4 b fun b=>Cl wu [b] fun b=>.op (.st 4 a b) fun _=>.fin [.cn 4 a,.val (.bool true)]))
theorem aaQ (x0 x1:AV):CC Tryz.prog AO [x0,x1] (OC x0 x1):=cc Tryz.func274
def SC (x0 x1:AV):Prog:=.op (.box x0) fun a=>.op (.box x1) fun b=>Lg 2 a fun c=>Lg 2 b fun d=>Bn .lss c d fun c=>Gf c false 2 a fun d=>Gf c false 2 b fun e=>.gop c false (.bin 0 .eql d e) fun d=>.gop c false (.mv d) fun d=>Gf d true 1 a fun a=>Gf d true 1 b fun b=>.gop d true (.bin 0 .lss a b) fun a=>.gop c false (.pick d a (.bool false)) fun a=>Pk c (.bool true) a fun a=>.fin [.val a]
theorem aeU (x0 x1:AV):CC Tryz.prog FW [x0,x1] (SC x0 x1):=cc Tryz.func285
def Ph (x0:AV):Prog:=.op (.alloc [.int .i64 0,.int .i64 0,.int .i64 0,.aA]) fun a=>.op (.build [.int .i64 0,.int .i64 0,.int .i64 0,.aA] []) fun b=>.op (.alloc [.int .i64 0,.int .i64 0,.int .i64 0,.aA]) fun c=>.op (.st 4 c b) fun _=>.loop [.bool false,.int .i64 0,.tup []] (fun a=>Ln 0 x0 fun b=>Bn .lss (g a 1) b fun b=>.ite b (.loop [g a 0,.int .i64 0] (fun b=>Ix 2 x0 (g a 1) fun d=>Lg 1 d fun d=>Ln 0 d fun d=>Bn .lss (g b 1) d fun d=>.ite d (.op (.una .not (g b 0)) fun d=>.gop d false (.mv x0) fun e=>.gop d false (.mv (g a 1)) fun f=>.gop d false (.idx 2 e f) fun e=>Gf d false 1 e fun e=>.gop d false (.mv (g b 1)) fun f=>.gop d false (.idx 4 e f) fun e=>.gop d false (.ldn 4 e) fun e=>.gop d false (.ldn 4 c) fun f=>.gop d false (.call FW [e,f]) fun e=>Pk d (.bool true) e fun d=>.scope (.ite d (Ix 2 x0 (g a 1) fun a=>Lg 1 a fun a=>Ix 4 a (g b 1) fun a=>Ld 4 a fun a=>.op (.st 4 c a) fun _=>.leaf 0 [.bool true]) (.leaf 0 [g b 0])) (fun a=>Bn .add (g b 1) (.int .i64 1) fun b=>.leaf 0 [g a 0,b]) fun a b=>aC a 1 (.leaf 1 b) .bad) (.leaf 4 [g b 0,g b 1])) fun b c=>aC b 1 (.leaf 1 c) (aC b 4 (Bn .add (g a 1) (.int .i64 1) fun a=>.leaf 0 [g c 0,a,g c 1]) .bad)) (.leaf 2 [g a 0,g a 1,g a 2])) fun b d=>aC b 1 (.leaf 1 d) (aC b 2 (Ld 4 c fun b=>Cl wu [b] fun b=>.op (.st 4 a b) fun _=>.fin [.cn 4 a,.val (g d 0)]) .bad)
theorem abB (x0:AV):CC Tryz.prog J5 [x0] (Ph x0):=cc Tryz.func277 [0,2,4,5,6,7] (fun r=>if r=9 then[(0,[]),(1,[]),(2,[]),(3,[]),(4,[]),(5,[]),(6,[]),(7,[]),(8,[]),(9,[]),(10,[]),(11,[]),(12,[]),(13,[])] else[])
end
theorem Iz {α:Type} (p:α→Bool) (xs:List α):idx p xs= -1∨(0≤idx p xs∧(idx p xs).toNat < xs.length):=by
 rcases BN p xs with⟨e,-⟩|⟨i,x,e,hx,-,-⟩
 ·exact .inl e
 ·have:=(List.getElem?_eq_some_iff.1 hx).1
  right;omega
def kQ:Trail:=⟨0,0,0,[]⟩
theorem agU:Sz.sz kQ≤67108864:=by decide
def Am (α:Type) [Cel α] (h:AH) (x:α) (b:Bool):AV→AH→Prop:=fun u h'=>Ext h h'∧∃ cs F,u= .tup [.agg cs,.bool b]∧Cel.rep h' x cs F∧Own h.n h' F
def uS (x:aR) (id:Int):Option Trail:=if idx (isId id) x.l < 0 then none else x.l[(idx (isId id) x.l).toNat]?
def dP (l:List aR) (id:Int):Option Trail:=match l[(stripe id l.length).toNat]? with
 |none=>none
 |some x=>uS x id
def dY (l:List aR) (id:Int):Trail:=(dP l id).getD kQ
def fH (l:List aR) (id:Int):Bool:=(dP l id).isSome
theorem nG {l:List aR} {id:Int} (h:dP l id=none):dY l id=kQ∧fH l id=false:=by simp[dY,fH,h]
theorem kP {l:List aR} {id:Int} {t:Trail} (h:dP l id=some t):dY l id=t∧fH l id=true:=by simp[dY,fH,h]
theorem Gn {h:AH}:Cel.rep h kQ [.int .i64 0,.int .i64 0,.int .i64 0,.aA] []:=⟨.aA,rfl,ah.aA⟩
theorem aaL {h:AH} {l:List aR} {v:AV} {F:List Nat} {id:Int} (hs:l.length+szs l≤67108864) (r:ah h v l F):bq Tryz.prog Et [v,.int .i64 id] h (Am Trail h (dY l id) (fH l id)):=by
 refine aa5 _ _ ?_
 unfold OV
 have hsm:=r.small
 have hst:l.length=0∨(0≤stripe id l.length∧stripe id l.length < l.length):=by
  by_cases e:l.length=0
  ·exact .inl e
  ·exact .inr (jg (by omega))
 (repeat' first|refine vs ?_|(refine br ?_ ?_<;>first|exact bx|intro _)|((with_reducible refine aG rJ ?_);refine aQ JW ?_)|((with_reducible refine aG EY ?_);refine aQ (acn aB) ?_)|((with_reducible refine bB ?_);(((refine iP ?_;intro _ _));rintro _ _ _ _ _ ⟨_,rfl,_⟩ _))|fail)
 ·rename_i e
  have:dP l id=none:=by unfold dP;rw[List.getElem?_eq_none (by omega)]
  rw[(nG this).1,(nG this).2]
  exact⟨rfl,_,rfl,aI,_,[],rfl,Gn,Own.nil⟩
 ·rename_i x hx b o Fi a w hrep hsub hlt
  have:dP l id=none:=by unfold dP;rw[hx];simp only[uS];rw[if_pos hlt]
  rw[(nG this).1,(nG this).2]
  exact⟨rfl,_,rfl,aI,_,[],rfl,Gn,Own.nil⟩
 ·rename_i x hx b o Fi a w hrep hsub hlt
  have hb:=Iz (isId id) x.l
  have hm:=dh (List.mem_of_getElem? hx)
  have hx2:Sz.sz x=x.l.length+szs x.l:=rfl
  obtain⟨t,ht,-,-⟩:=aU (show(idx (isId id) x.l).toNat < x.l.length by omega)
  have hm2:=dh (List.mem_of_getElem? ht)
  have:dP l id=some t:=by unfold dP;rw[hx];simp only[uS];rw[if_neg hlt];exact ht
  rw[(kP this).1,(kP this).2]
  (repeat' first|refine vs ?_|((with_reducible refine aG AQ ?_);(refine aL (Oy t (by omega) _ _ _ ⟨_,rfl,aB⟩) ?_;rintro _ h2 ⟨e2,_,G2,rfl,⟨w2,rfl,q2⟩,o2⟩;have n2:=e2.1;(try simp only[aJ,aN] at n2)))|((with_reducible refine bB ?_);((refine ixi ?_);rintro _ _ _ _ _ ⟨_,rfl,_⟩ _))|fail)
  exact⟨rfl,_,rfl,aI,_,_,rfl,⟨_,rfl,aB⟩,aY⟩
theorem JI {h:AH} {l:List aR} {v:AV} {F:List Nat} {id:Int} (hs:l.length+szs l≤67108864) (r:ah h v l F):bq Tryz.prog AO [v,.int .i64 id] h (Am Trail h (dY l id) (fH l id)):=by
 refine aaQ _ _ ?_
 unfold OC
 have hsm:=r.small
 have hst:l.length=0∨(0≤stripe id l.length∧stripe id l.length < l.length):=by
  by_cases e:l.length=0
  ·exact .inl e
  ·exact .inr (jg (by omega))
 (repeat' first|refine vs ?_|(refine br ?_ ?_<;>first|exact bx|intro _)|((with_reducible refine aG fO ?_);refine aQ jd ?_)|((with_reducible refine aG yG ?_);refine aQ (J9 aB) ?_)|((with_reducible refine bB ?_);(((refine iP ?_;intro _ _));rintro _ _ _ _ _ ⟨_,rfl,_⟩ _))|fail)
 ·rename_i e
  have:dP l id=none:=by unfold dP;rw[List.getElem?_eq_none (by omega)]
  rw[(nG this).1,(nG this).2]
  exact⟨rfl,_,rfl,aI,_,[],rfl,Gn,Own.nil⟩
 ·rename_i x hx b o Fi a w hrep hsub hlt
  have:dP l id=none:=by unfold dP;rw[hx];simp only[uS];rw[if_pos hlt]
  rw[(nG this).1,(nG this).2]
  exact⟨rfl,_,rfl,aI,_,[],rfl,Gn,Own.nil⟩
 ·rename_i x hx b o Fi a w hrep hsub hlt
  have hb:=Iz (isId id) x.l
  have hm:=dh (List.mem_of_getElem? hx)
  have hx2:Sz.sz x=x.l.length+szs x.l:=rfl
  obtain⟨t,ht,-,-⟩:=aU (show(idx (isId id) x.l).toNat < x.l.length by omega)
  have hm2:=dh (List.mem_of_getElem? ht)
  have:dP l id=some t:=by unfold dP;rw[hx];simp only[uS];rw[if_neg hlt];exact ht
  rw[(kP this).1,(kP this).2]
  (repeat' first|refine vs ?_|((with_reducible refine aG wu ?_);(refine aL (J8 t (by omega) _ _ _ ⟨_,rfl,aB⟩) ?_;rintro _ h2 ⟨e2,_,G2,rfl,⟨w2,rfl,q2⟩,o2⟩;have n2:=e2.1;(try simp only[aJ,aN] at n2)))|((with_reducible refine bB ?_);((refine ixi ?_);rintro _ _ _ _ _ ⟨_,rfl,_⟩ _))|fail)
  exact⟨rfl,_,rfl,aI,_,_,rfl,⟨_,rfl,aB⟩,aY⟩
def older (a b:Trail):Prop:=a.first < b.first∨(a.first=b.first∧a.stamp < b.stamp)
theorem aex {h:AH} {a b:Trail} {v v':AV}:aP Tryz.prog FW [.agg (a.cs v),.agg (b.cs v')] h (.bool (bp (older a b))):=by
 refine reader (aeU _ _) (by simp only[old]) ?_
 unfold SC
 (repeat' first|refine vs ?_|(refine br ?_ ?_<;>first|exact bx|intro _)|fail)
 all_goals first
  |(refine pt ?_;unfold older;omega)
  |(refine pf ?_;unfold older;omega)
noncomputable def iU (b:Option Trail) (t:Trail):Option Trail:=match b with
 |none=>some t
 |some b=>if bp (older t b)=true then some t else some b
noncomputable def oldest (l:List Trail):Option Trail:=l.foldl iU none
theorem ajY {b t:Trail} (h:older t b):iU (some b) t=some t:=by simp[iU,fK h]
theorem ajZ {b t:Trail} (h: ¬ older t b):iU (some b) t=some b:=by simp[iU,gM h]
theorem MI {l:List Trail} {i:Nat} {x:Trail} {z:Option Trail} (ht:l.take (i+1)=l.take i++[x]):(l.take (i+1)).foldl iU z=iU ((l.take i).foldl iU z) x:=by rw[ht,List.foldl_append];rfl
theorem abd {h:AH} {l:List aR} {v:AV} {F:List Nat} (hs:l.length+szs l≤67108864) (r:ah h v l F):bq Tryz.prog J5 [v] h (Am Trail h ((oldest (allT l)).getD kQ) (oldest (allT l)).isSome):=by
 refine abB _ ?_
 unfold Ph
 have hsm:=r.small
 (repeat' first|refine vs ?_|fail)
 refine aX l.length (fun i vs h2=>∃ z vb Fb,vs=[.bool (oldest (allT (l.take i))).isSome,.int .i64 (i:Int),z]∧i≤l.length∧Ext (h.push ⟨[.int .i64 0,.int .i64 0,.int .i64 0,.aA],0,0⟩) h2∧Bk h2 (h.n+1) [.int .i64 ((oldest (allT (l.take i))).getD kQ).id,.int .i64 ((oldest (allT (l.take i))).getD kQ).stamp,.int .i64 ((oldest (allT (l.take i))).getD kQ).first,vb] 0∧ah h vb ((oldest (allT (l.take i))).getD kQ).spans Fb∧Sz.sz ((oldest (allT (l.take i))).getD kQ)≤67108864) ⟨_,.aA,[],rfl,Nat.zero_le _,aI,(show Bk _ _ [.int .i64 0,.int .i64 0,.int .i64 0,.aA] 0 from aO),ah.aA,agU⟩ ?_
 rintro i vs h2 _ ⟨z,vb,Fb,rfl,hi,e2,bk,rb,hz⟩
 have nb:=bk.1
 have n2:=e2.1
 simp only[aJ] at n2
 simp only[g0,g1]
 refine eG r ?_
 refine br (fun hlt=>?_) (fun hge=>?_)
 ·obtain⟨x,hx,-,htk⟩:=aU (show i < l.length by omega)
  have hm:=dh (List.mem_of_getElem? hx)
  have hx2:Sz.sz x=x.l.length+szs x.l:=rfl
  have hss:oldest (allT (l.take (i+1)))=x.l.foldl iU (oldest (allT (l.take i))):=by rw[Ih htk];simp[oldest,List.foldl_append]
  refine dL ?_
  refine aX x.l.length (fun j vs h3=>∃ vb Fb,vs=[.bool ((x.l.take j).foldl iU (oldest (allT (l.take i)))).isSome,.int .i64 (j:Int)]∧j≤x.l.length∧Ext (h.push ⟨[.int .i64 0,.int .i64 0,.int .i64 0,.aA],0,0⟩) h3∧Bk h3 (h.n+1) [.int .i64 (((x.l.take j).foldl iU (oldest (allT (l.take i)))).getD kQ).id,.int .i64 (((x.l.take j).foldl iU (oldest (allT (l.take i)))).getD kQ).stamp,.int .i64 (((x.l.take j).foldl iU (oldest (allT (l.take i)))).getD kQ).first,vb] 0∧ah h vb (((x.l.take j).foldl iU (oldest (allT (l.take i)))).getD kQ).spans Fb∧Sz.sz (((x.l.take j).foldl iU (oldest (allT (l.take i)))).getD kQ)≤67108864) ⟨vb,Fb,rfl,Nat.zero_le _,e2,bk,rb,hz⟩ ?_
  rintro j vs h3 _ ⟨vb,Fb,rfl,hj,e3,bk,rb,hz⟩
  have nb3:=bk.1
  have n3:=e3.1
  simp only[aJ] at n3
  simp only[g0,g1]
  refine dw r hx rfl ?_
  rintro b o _ Fi a ⟨v0,rfl,r0⟩ _
  refine vs ?_
  refine br (fun hlt2=>?_) (fun vR=>?_)
  ·obtain⟨y,hy,-,xY⟩:=aU (show j < x.l.length by omega)
   have hm2:=dh (List.mem_of_getElem? hy)
   cases Dr:(x.l.take j).foldl iU (oldest (allT (l.take i))) with
   |none=>
    have hnx:(x.l.take (j+1)).foldl iU (oldest (allT (l.take i)))=some y:=by rw[MI xY,Dr];rfl
    simp only[Dr,Option.isSome] at bk rb hz ⊢
    (repeat' first|refine vs ?_|((with_reducible refine bB ?_);((refine ix ?_);rintro _ _ _ _ _ ⟨_,rfl,_⟩ _))|fail)
    rename_i w' q' _ _
    exact⟨by omega,w',_,by rw[hnx];rfl,by omega,aI,by rw[hnx];exact(show Bk _ _ [.int .i64 y.id,.int .i64 y.stamp,.int .i64 y.first,w'] 0 from aO),by rw[hnx];exact q',by rw[hnx];simp only[Option.getD];omega⟩
   |some t=>
    simp only[Dr,Option.isSome,Option.getD] at bk rb hz ⊢
    (repeat' first|refine vs ?_|((with_reducible refine aG FW ?_);(refine bC aex ?_ ?_<;>intro hn))|((with_reducible refine bB ?_);((refine ix ?_);rintro _ _ _ _ _ ⟨_,rfl,_⟩ _))|fail)
    ·have hnx:(x.l.take (j+1)).foldl iU (oldest (allT (l.take i)))=some y:=by rw[MI xY,Dr,ajY hn]
     rename_i w' q' _ _
     exact⟨by omega,w',_,by rw[hnx];rfl,by omega,aI,by rw[hnx];exact(show Bk _ _ [.int .i64 y.id,.int .i64 y.stamp,.int .i64 y.first,w'] 0 from aO),by rw[hnx];exact q',by rw[hnx];simp only[Option.getD];omega⟩
    ·have hnx:(x.l.take (j+1)).foldl iU (oldest (allT (l.take i)))=some t:=by rw[MI xY,Dr,ajZ hn]
     exact⟨by omega,vb,_,by rw[hnx];rfl,by omega,aI,by rw[hnx];exact(show Bk _ _ [.int .i64 t.id,.int .i64 t.stamp,.int .i64 t.first,vb] 0 from aO),by rw[hnx];exact rb,by rw[hnx];simp only[Option.getD];omega⟩
  ·have e:j=x.l.length:=by omega
   rw[e,List.take_length,←hss] at bk rb hz
   (repeat' first|refine vs ?_|fail)
   exact⟨by omega,_,_,_,by rw[hss,e,List.take_length];rfl,by omega,aI,bk,rb,hz⟩
 ·have e:i=l.length:=by omega
  rw[e,List.take_length] at bk rb hz
  rw[e,List.take_length]
  (repeat' first|refine vs ?_|((with_reducible refine aG wu ?_);(refine aL (J8 _ hz _ _ _ ⟨_,rfl,aB⟩) ?_;rintro _ h4 ⟨e4,_,G4,rfl,⟨w4,rfl,q4⟩,o4⟩;have n4:=e4.1;(try simp only[aJ,aN] at n4)))|fail)
  exact⟨rfl,_,rfl,aI,_,_,rfl,⟨_,rfl,aB⟩,aY⟩
end Go.Proofs.YtcgjihfngdhjjaaGreat
end
section
set_option maxHeartbeats 1000000
namespace Go.Proofs.YtcgjihfngdhjjaaGreat
open Go Go.Ab
section
def OD (x0 x1:AV):Prog:=Cl EO [x0] fun a=>Ln 0 x0 fun b=>Bn .eql b (.int .i64 0) fun b=>.ite b (.fin [.val a]) (Ln 0 x0 fun b=>Cl fO [x1,b] fun b=>Ix 2 x0 b fun c=>Lg 1 c fun c=>Cl yG [c,x1] fun c=>Bn .geq c (.int .i64 0) fun d=>.scope (.ite d (Ix 2 a b fun d=>Lg 1 d fun d=>.op (.slc 4 d none (some c) none) fun d=>Ix 2 a b fun e=>Lg 1 e fun e=>Bn .add c (.int .i64 1) fun c=>.op (.slc 4 e (some c) none none) fun c=>.op (.app 4 48 d c) fun c=>Ix 2 a b fun a=>Sg 1 a c fun _=>.leaf 0 []) (.leaf 0 [])) (fun _=>.fin [.val a]) fun a b=>aC a 1 (.leaf 1 b) .bad)
theorem aaR (x0 x1:AV):CC Tryz.prog JM [x0,x1] (OD x0 x1):=cc Tryz.func286 [5] (fun r=>if r=7 then[(0,[]),(1,[]),(2,[]),(3,[]),(4,[]),(5,[]),(6,[]),(7,[]),(8,[]),(9,[]),(10,[]),(11,[]),(12,[]),(13,[]),(14,[]),(15,[]),(16,[]),(17,[]),(18,[]),(19,[]),(20,[])] else[])
end
noncomputable def fU (l:List aR) (id:Int):List aR:=match l[(stripe id l.length).toNat]? with
 |none=>l
 |some x=>if idx (isId id) x.l < 0 then l else l.set (stripe id l.length).toNat {x with l:=x.l.eraseIdx (idx (isId id) x.l).toNat}
theorem agA {l:List aR} {id:Int} (h:l.length=0):fU l id=l:=by
 unfold fU;rw[List.getElem?_eq_none (by omega)]
theorem aiH {l:List aR} {id:Int} {x:aR} (hx:l[(stripe id l.length).toNat]? =some x) (h:idx (isId id) x.l < 0):fU l id=l:=by
 unfold fU;rw[hx];simp only;rw[if_pos h]
theorem Vg {l:List aR} {id:Int} {x:aR} (hx:l[(stripe id l.length).toNat]? =some x) (h: ¬ idx (isId id) x.l < 0):fU l id=l.set (stripe id l.length).toNat {x with l:=x.l.eraseIdx (idx (isId id) x.l).toNat}:=by
 unfold fU;rw[hx];simp only;rw[if_neg h]
section
variable{P:Program} {h:AH} {Q:Nat→List AV→AH→Prop} {k:AV→Prog}
theorem bA {b o:Nat} (hk:(k (.ptr b o)).awp P h Q):(Prog.op (.bZ (.ptr b o)) k).awp P h Q:=hk
end
theorem aia {n:Nat} {h h':AH} {b:Nat} {F1 Fi Fi' F2:List Nat} (o:Own n h (b::(F1++(Fi++F2)))) (o':Own n h' Fi') (hs:∀ c∈Fi',c∈Fi) (hk:∀ c∈b::(F1++F2),(h'.get c).st=(h.get c).st):Own n h' (b::(F1++(Fi'++F2))):=by
 have hnd:=List.nodup_cons.1 o.1
 have xZ:=List.nodup_append.1 hnd.2
 have Au:=List.nodup_append.1 xZ.2.1
 refine⟨List.nodup_cons.2 ⟨fun hc=>hnd.1 ?_,List.nodup_append.2 ⟨xZ.1,List.nodup_append.2 ⟨o'.1,Au.2.1,fun a ha c hc e=>Au.2.2 a (hs a ha) c hc e⟩,fun a ha c hc e=>xZ.2.2 a ha c ?_ e⟩⟩,fun c hc=>?_⟩
 ·simp only[List.mem_append] at hc ⊢
  rcases hc with hc|hc|hc
  ·exact .inl hc
  ·exact .inr (.inl (hs _ hc))
  ·exact .inr (.inr hc)
 ·rcases List.mem_append.1 hc with hc|hc
  ·exact List.mem_append_left _ (hs c hc)
  ·exact List.mem_append_right _ hc
 ·have hc2:c∈b::(F1++F2)∨c∈Fi':=by
   simp only[List.mem_cons,List.mem_append] at hc ⊢
   rcases hc with hc|hc|hc|hc
   ·exact .inl (.inl hc)
   ·exact .inl (.inr (.inl hc))
   ·exact .inr hc
   ·exact .inl (.inr (.inr hc))
  rcases hc2 with hc2|hc2
  ·have hm:c∈b::(F1++(Fi++F2)):=by
    simp only[List.mem_cons,List.mem_append] at hc2 ⊢
    rcases hc2 with hc|hc|hc
    ·exact .inl hc
    ·exact .inr (.inl hc)
    ·exact .inr (.inr (.inr hc))
   exact⟨(o.2 c hm).1,by rw[hk c hc2];exact(o.2 c hm).2⟩
  ·exact o'.2 c hc2
theorem Ox {h:AH} {l:List aR} {v:AV} {F:List Nat} {id:Int} (hs:l.length+szs l≤67108864) (r:ah h v l F):bq Tryz.prog JM [v,.int .i64 id] h (rF aR h (fU l id)):=by
 refine aaR _ _ ?_
 unfold OD
 have hsm:=r.small
 refine aL (PU l hs v F h r) ?_
 rintro w1 h1 ⟨e1,G1,q1,o1⟩
 refine eG r ?_
 refine br (fun h0=>?_) (fun h0=>?_)
 ·(repeat' first|refine vs ?_|fail)
  exact⟨rfl,_,rfl,e1,_,by rw[agA (by omega)];exact q1,o1⟩
 ·have hsb:=jg (t:=id) (n:=l.length) (by omega)
  obtain⟨x,hx,-,-⟩:=aU (show(stripe id l.length).toNat < l.length by omega)
  have hm:=dh (List.mem_of_getElem? hx)
  have hx2:Sz.sz x=x.l.length+szs x.l:=rfl
  refine dO (eG r (aQ jd (Ct r (by omega) hx rfl ?_)))
  rintro b0 o0 _ Fi0 a0 ⟨v0,rfl,r0⟩ _
  refine vs ?_
  refine aQ (J9 aB) ?_
  refine br (fun hge=>?_) (fun hlt=>?_)
  ·have hib:=Iz (isId id) x.l
   obtain⟨i,hi⟩:∃ i:Nat,idx (isId id) x.l=i:=⟨(idx (isId id) x.l).toNat,by omega⟩
   have hil:i < x.l.length:=by omega
   rw[hi]
   obtain⟨b,off,A,E,R,F1,Fi,F2,rfl,rfl,hb,hl,hes,hcs,hA,⟨vL,rfl,rL⟩,back⟩:=q1.zip hx
   have hmi:(h1.get b).st=0:=(o1.2 b (by simp)).2
   have hg:h1.get b=⟨A++(x.cs vL++R),2,0⟩:=by
    have:h1.get b=⟨(h1.get b).cells,(h1.get b).es,(h1.get b).st⟩:=rfl
    rw[this,hcs,hes,hmi];rfl
   have oL:Own h.n h1 Fi:=aib o1
   have at1:At h1 b (off+(stripe id l.length).toNat * 2) (x.cs vL):=Aw (es:=2) (st:=0) hb hl hcs hA
   have hbn:b ∉ F1++(Fi++F2):=(List.nodup_cons.1 o1.1).1
   obtain⟨bL,alB,rfl,mL,esL,Yx,-,-⟩:=rL.top oL (by omega)
   refine vs ?_
   refine GQ (by omega) (by omega) ?_
   refine vs ?_
   refine agF (by decide) esL mL Yx (by omega) ?_
   refine GQ (by omega) (by omega) ?_
   refine vs ?_
   refine Gx (by decide) esL mL Yx (by omega) ?_
   refine aiJ (α:=Trail) rL oL hil ?_
   intro h2 F' k2 r2 o2 hsub hn2
   have hb2:h2.get b=h1.get b:=k2.2 b hb fun hc=>hbn (by simp[hc])
   refine GQ (by omega) (by omega) (pI (MQ (by rw[hb2];exact hg) hA r2.cell rfl bV ?_))
   (repeat' first|refine vs ?_|fail)
   have hd1:∀ c∈F1++F2,c ∉ Fi∧c≠b∧c < h1.n:=by
    have hnd:=List.nodup_append.1 (List.nodup_cons.1 o1.1).2
    have Au:=List.nodup_append.1 hnd.2.1
    have hlt:=q1.lt
    intro c hc
    rcases List.mem_append.1 hc with hc'|hc'
    ·exact⟨fun hf=>hnd.2.2 c hc' c (List.mem_append_left _ hf) rfl,fun e=>hbn (e▸List.mem_append_left _ hc'),hlt c (by simp[hc'])⟩
    ·exact⟨fun hf=>Au.2.2 c hf c hc' rfl,fun e=>hbn (e▸List.mem_append_right _ (List.mem_append_right _ hc')),hlt c (by simp[hc'])⟩
   have hbF:b ∉ F':=fun hc=>hbn (by simp[hsub b hc])
   refine⟨rfl,_,rfl,?_,b::(F1++(F'++F2)),?_,?_⟩
   ·refine Ext.upd (Kp.ext e1 k2 fun c hc=>(oL.2 c hc).1) (o1.2 b (by simp)).1 _
   ·rw[Vg hx (by omega),show(idx (isId id) x.l).toNat=i by omega]
    refine back _ {x with l:=x.l.eraseIdx i} _ F' (by simp only[oJ,if_true];rfl) (by simp only[oJ,if_true];rfl) (by simp[live]) (by simpa using Nat.lt_of_lt_of_le hb k2.1) (fun c hc=>?_) ⟨_,rfl,?_⟩
    ·obtain⟨d1,d2,d3⟩:=hd1 c hc
     exact⟨by simp only[oJ,d2,if_false];exact k2.2 c d3 d1,by simpa using Nat.lt_of_lt_of_le d3 k2.1⟩
    ·exact dH r2 hbF
   ·refine aia o1 (o2.mono (Nat.le_refl _) fun c hc=>by have:c≠b:=fun e=>hbF (e▸hc);simp[this]) hsub fun c hc=>?_
    rcases List.mem_cons.1 hc with rfl|hc
    ·simp[hmi]
    ·obtain⟨d1,d2,d3⟩:=hd1 c hc
     simp only[oJ,d2,if_false];rw[k2.2 c d3 d1]
  ·(repeat' first|refine vs ?_|fail)
   exact⟨rfl,_,rfl,e1,_,by rw[aiH hx (by omega)];exact q1,o1⟩
end Go.Proofs.YtcgjihfngdhjjaaGreat
end
section
set_option maxHeartbeats 2000000
namespace Go.Proofs.YtcgjihfngdhjjaaGreat
open Go Go.Ab
section
def Oh (x0 x1:AV):Prog:=Ln 0 x0 fun a=>.loop [.int .i64 0] (fun b=>Bn .lss (g b 0) a fun a=>.ite a (Ix 1 x0 (g b 0) fun a=>.op (.ld1 a) fun a=>Bn .eql x1 a fun a=>.ite a (.fin [.val (g b 0)]) (Bn .add (g b 0) (.int .i64 1) fun a=>.leaf 0 [a])) (.leaf 2 [g b 0])) fun a b=>aC a 1 (.leaf 1 b) (aC a 2 (.fin [.val (.int .i64 (-1))]) .bad)
theorem Z9 (x0 x1:AV):CC Tryz.prog Ee [x0,x1] (Oh x0 x1):=cc Tryz.func232 [0,1,7,8] (fun _=>[])
def Ob (x0 x1:AV):Prog:=Cl Ee [x0,x1] fun a=>Bn .geq a (.int .i64 0) fun a=>.fin [.val a]
theorem ZX (x0 x1:AV):CC Tryz.prog Eb [x0,x1] (Ob x0 x1):=cc Tryz.func172
def OQ (x0:AV):Prog:=Ln 0 x0 fun a=>Cl bT [a,.int .i64 1,.int .i64 3] fun a=>.op (.una .not a) fun a=>.ite a (.fin [.val (.bool false)]) (Ln 0 x0 fun a=>.loop [.aA,.tup [],.tup [],.int .i64 0,.tup [],.tup [],.tup []] (fun b=>Bn .lss (g b 3) a fun a=>.ite a (Ix 2 x0 (g b 3) fun a=>Ld 2 a fun a=>.op (.alloc [.int .i64 0,.aA]) fun c=>.op (.st 2 c a) fun _=>Lg 0 c fun a=>Cl bT [a,.int .i64 (-1),.int .i64 4] fun a=>.op (.una .not a) fun a=>.ite a (.fin [.val (.bool false)]) (Lg 1 c fun a=>Ln 0 a fun d=>.loop [g b 0,.int .i64 0] (fun e=>Bn .lss (g e 1) d fun d=>.ite d (Ix 4 a (g e 1) fun a=>Ld 4 a fun a=>.op (.alloc [.int .i64 0,.int .i64 0,.int .i64 0,.aA]) fun d=>.op (.st 4 d a) fun _=>Ld 4 d fun a=>Cl EX [a] fun a=>.op (.una .not a) fun a=>Gf a false 0 d fun f=>.gop a false (.mv x0) fun i=>.gop a false (.len 0 i) fun i=>.gop a false (.mv (g b 3)) fun b=>.gop a false (.call rJ [f,i]) fun f=>.gop a false (.bin 0 .neq f b) fun b=>Pk a (.bool true) b fun a=>.gop a false (.mv (g e 1)) fun b=>.gop a false (.bin 0 .gtr b (.int .i64 0)) fun b=>.gop a false (.mv b) fun b=>Gf b true 1 c fun c=>.gop b true (.mv (g e 1)) fun f=>.gop b true (.bin 0 .sub f (.int .i64 1)) fun f=>.gop b true (.idx 4 c f) fun c=>Gf b true 0 c fun c=>Gf b true 0 d fun f=>.gop b true (.bin 0 .geq c f) fun c=>.gop a false (.pick b c (.bool false)) fun b=>Pk a (.bool true) b fun a=>.gop a false (.mv (g e 0)) fun b=>Gf a false 1 d fun c=>.gop a false (.call Eb [b,c]) fun b=>Pk a (.bool true) b fun a=>.ite a (.fin [.val (.bool false)]) (Lg 1 d fun a=>.op (.aS 1 1 [.int .i64 0] [(0,1,a)]) fun a=>.op (.app 1 8 (g e 0) a) fun a=>Bn .add (g e 1) (.int .i64 1) fun b=>.leaf 0 [a,b])) (.leaf 4 [g e 0,g e 1])) fun e f=>aC e 1 (.leaf 1 f) (aC e 4 (Bn .add (g b 3) (.int .i64 1) fun e=>.leaf 0 [g f 0,g b 3,c,e,a,d,g f 1]) .bad))) (.leaf 2 [g b 0,g b 1,g b 2,g b 3,g b 4,g b 5,g b 6])) fun a b=>aC a 1 (.leaf 1 b) (aC a 2 (.fin [.val (.bool true)]) .bad))
theorem aa2 (x0:AV):CC Tryz.prog Er [x0] (OQ x0):=cc Tryz.func100 [0,3,4,5,12,13,14,24,25,26] (fun r=>if r=12 then[(0,[]),(1,[]),(2,[]),(3,[]),(4,[]),(5,[]),(6,[]),(7,[]),(9,[]),(8,[]),(10,[]),(11,[]),(12,[]),(13,[]),(14,[]),(15,[]),(16,[]),(17,[]),(18,[]),(19,[]),(20,[]),(21,[]),(22,[]),(23,[]),(24,[]),(25,[]),(26,[]),(27,[]),(28,[]),(29,[]),(30,[]),(31,[]),(32,[]),(33,[])] else[])
end
theorem Z8 {h:AH} {xs:List Int} {v:AV} {F:List Nat} {n:Int} (r:ah h v xs F):aP Tryz.prog Ee [v,.int .i64 n] h (.int .i64 (idx (fun y=>decide (n=y)) xs)):=by
 refine reader (Z9 _ _) (by simp only[old]) ?_
 unfold Oh
 have hsm:=r.small
 refine eG r ?_
 refine aX xs.length (fun i vs h1=>vs=[.int .i64 (i:Int)]∧i≤xs.length∧h1=h∧eZ xs (fun _ y=>decide (n=y)=false) i) ⟨rfl,Nat.zero_le _,rfl,up0⟩ ?_
 rintro i vs h1 _ ⟨rfl,hi,rfl,hu⟩
 simp only[g0]
 refine br (fun hlt=>?_) (fun hge=>?_)
 ·obtain⟨x,hx,-,-⟩:=aU (show i < xs.length by omega)
  (repeat' first|refine vs ?_|(refine br ?_ ?_<;>first|exact bx|intro _)|((with_reducible refine bB ?_);((refine ix ?_);rintro _ _ _ _ _ ⟨rfl,rfl⟩ _))|fail)
  ·rename_i he
   exact pi (xA hx (by simp[he]) fun j y hj hy=>hu j y hj hy).symm
  ·rename_i he
   exact⟨by omega,rfl,by omega,rfl,upS hu hx (by simp[he])⟩
 ·(repeat' first|refine vs ?_|fail)
  exact pi (CF fun j y hj hy=>hu j y (by omega) hy).symm
theorem ZW {h:AH} {xs:List Int} {v:AV} {F:List Nat} {n:Int} (r:ah h v xs F):aP Tryz.prog Eb [v,.int .i64 n] h (.bool (bp (n∈xs))):=by
 refine reader (ZX _ _) (by simp only[old]) ?_
 unfold Ob
 (repeat' first|refine vs ?_|(refine br ?_ ?_<;>first|exact bx|intro _)|((with_reducible refine aG Ee ?_);refine aQ (Z8 aB) ?_)|fail)
 ·rename_i hge
  rcases BN (fun y=>decide (n=y)) xs with⟨e,-⟩|⟨i,x,e,hx,hp,-⟩
  ·omega
  ·exact pt (by simp at hp;subst hp;exact List.mem_of_getElem? hx)
 ·rename_i hlt
  rcases BN (fun y=>decide (n=y)) xs with⟨e,hf⟩|⟨i,x,e,hx,hp,-⟩
  ·refine pf fun hm=>?_
   rw[List.filter_eq_self] at hf
   have:=hf n hm;simp at this
  ·omega
def Yd (l:List aR) (i:Nat) (x:aR) (k:Nat) (t:Trail):Prop:=zA t∧stripe t.id l.length=i∧(∀ u,0 < k→x.l[((k:Int) - 1).toNat]? =some u→¬ t.id≤u.id)∧t.stamp ∉ (allT (l.take i)++x.l.take k).map (·.stamp)
def Xq (l:List aR) (i:Nat) (x:aR):Prop:=(-1≤x.held∧x.held≤4)∧∀ k t,x.l[k]? =some t→Yd l i x k t
def Gm (l:List aR):Prop:=(1≤(l.length:Int)∧(l.length:Int)≤3)∧∀ i x,l[i]? =some x→Xq l i x
def stamps (l:List aR) (i:Nat) (x:aR) (k:Nat):List Int:=(allT (l.take i)++x.l.take k).map (·.stamp)
theorem agZ {l:List aR} {i:Nat} {x:aR} {k:Nat} {t:Trail} (ht:x.l.take (k+1)=x.l.take k++[t]):stamps l i x (k+1)=stamps l i x k++[t.stamp]:=by unfold stamps;rw[ht,←List.append_assoc,List.map_append];rfl
theorem ag0 {l:List aR} {i:Nat} {x:aR} (ht:l.take (i+1)=l.take i++[x]):stamps l i x x.l.length=(allT (l.take (i+1))).map (·.stamp):=by unfold stamps;rw[Ih ht,List.take_length]
theorem afo (l:List aR) (i:Nat) (x:aR) (k:Nat):(stamps l i x k).length≤szs (l.take i)+x.l.length:=by
 have:=CU (l.take i)
 unfold stamps;rw[List.length_map,List.length_append,List.length_take];omega
theorem aaJ {h:AH} {l:List aR} {v:AV} {F:List Nat} (ok:∀ x∈l,Cel.ok x) (hs:l.length+szs l≤67108864) (r:ah h v l F):aP Tryz.prog Er [v] h (.bool (bp (Gm l))):=by
 refine reader (aa2 _) (by simp only[old]) ?_
 unfold OQ
 have hsm:=r.small
 (repeat' first|refine vs ?_|((with_reducible refine aG bT ?_);(refine dS jG ?_ ?_<;>intro hb<;>first|replace hb:=fE hb|replace hb:=fG hb))|fail)
 rotate_left
 ·exact pf (fun k=>by have:=k.1;omega)
 refine aX l.length (fun i vs h1=>∃ u G z1 z2 z4 z5 z6,vs=[u,z1,z2,.int .i64 (i:Int),z4,z5,z6]∧i≤l.length∧Ext h h1∧ah h1 u ((allT (l.take i)).map (·.stamp)) G∧Own h.n h1 G∧eZ l (Xq l) i) ⟨.aA,[],_,_,_,_,_,rfl,Nat.zero_le _,Ext.refl _,ah.aA,Own.nil,up0⟩ ?_
 rintro i vs h1 _ ⟨u,G,z1,z2,z4,z5,z6,rfl,hi,e1,ru,ou,hu⟩
 have n1:=e1.1
 simp only[g0,g3]
 refine br (fun hlt=>?_) (fun hge=>?_)
 ·obtain⟨x,hx,-,htk⟩:=aU (show i < l.length by omega)
  have hxm:=List.mem_of_getElem? hx
  have hm:=dh hxm
  have hx2:Sz.sz x=x.l.length+szs x.l:=rfl
  have okx:=ok x hxm
  refine vs ?_
  refine dw r hx rfl ?_
  rintro b o _ Fi a ⟨v0,rfl,r0⟩ _
  (repeat' first|refine vs ?_|((with_reducible refine aG bT ?_);(refine dS jG ?_ ?_<;>intro hb<;>first|replace hb:=fE hb|replace hb:=fG hb))|fail)
  rotate_left
  ·exact pf (fun k=>by have:=(k.2 i x hx).1;omega)
  have hle:=mX l i
  refine aX x.l.length (fun k vs h2=>∃ u G,vs=[u,.int .i64 (k:Int)]∧k≤x.l.length∧Ext h h2∧Bk h2 h1.n [.int .i64 x.held,v0] 0∧h1.n ∉ G∧ah h2 u (stamps l i x k) G∧Own h.n h2 G∧eZ x.l (Yd l i x) k) ⟨u,G,rfl,Nat.zero_le _,aI,aO,CB ru (Nat.le_refl _),by unfold stamps;rw[List.take_zero,List.append_nil];exact aB,aY,up0⟩ ?_
  rintro k vs h2 _ ⟨u2,G2,rfl,hk,e2,bk2,nb2,ru2,ou2,hu2⟩
  have n2:=e2.1
  have nb:=bk2.1
  simp only[g0,g1]
  refine br (fun hlt2=>?_) (fun vR=>?_)
  ·obtain⟨t,ht,-,xY⟩:=aU (show k < x.l.length by omega)
   have htm:=List.mem_of_getElem? ht
   have hm2:=dh htm
   have okt:=okx.2 t htm
   have hsl:=afo l i x k
   (repeat' first|refine vs ?_|(refine br ?_ ?_<;>first|exact bx|intro _)|((with_reducible refine aG EX ?_);(refine bC (acj okt.2.2.2 (by omega) aB) ?_ ?_<;>intro hn))|((with_reducible refine aG rJ ?_);refine aQ JW ?_)|((with_reducible refine aG Eb ?_);(refine bC (ZW aB) ?_ ?_<;>intro hc))|((with_reducible refine bB ?_);((first|refine ix ?_|(refine iP ?_;intro _ _));rintro _ _ _ _ _ ⟨_,rfl,_⟩ _))|fail)
   all_goals first
    |(refine pf fun k1=>?_;have k1:=(k1.2 i x hx).2 k t ht;obtain⟨a1,a2,a3,a4⟩:=k1;first|contradiction|exact a3 _ (by omega) (by assumption) (by omega))
    |skip
   all_goals
    refine iC (n:=h.n) (xs:=stamps l i x k) (Fx:=G2) (a:=t.stamp) aB ⟨rfl,rfl⟩ (by rw[List.append_nil];exact aY) aV rfl ?_ ?_ ?_
    ·omega
    ·omega
    intro u' h' F' ek kp r' o' hF'
    (repeat' first|refine vs ?_|fail)
    refine⟨by omega,u',F',rfl,by omega,ek h aI (Nat.le_refl _),bI kp aO nb2,fun hc=>?_,by rw[agZ xY];exact r',o',upS hu2 ht ⟨by assumption,by omega,fun u h0 hu=>?_,by assumption⟩⟩
    ·rcases hF' _ hc with hc|hc|hc
     ·exact nb2 hc
     ·cases hc
     ·simp only[aJ] at hc;omega
    ·first
     |(exfalso;omega)
     |(simp_all;done)
     |(simp_all;omega)
  ·(repeat' first|refine vs ?_|fail)
   have e:k=x.l.length:=by omega
   rw[e,ag0 htk] at ru2
   rw[e] at hu2
   exact⟨by omega,u2,G2,_,_,_,_,_,rfl,by omega,aI,ru2,ou2,upS hu hx ⟨by omega,fun k t ht=>tK hu2 k t ht⟩⟩
 ·(repeat' first|refine vs ?_|fail)
  rw[show i=l.length by omega] at hu
  exact pt ⟨by omega,fun i x hx=>tK hu i x hx⟩
end Go.Proofs.YtcgjihfngdhjjaaGreat
end
section
namespace Go.Proofs.YtcgjihfngdhjjaaGreat
open Go Go.Ab
end Go.Proofs.YtcgjihfngdhjjaaGreat
end
section
set_option maxHeartbeats 2000000
namespace Go.Proofs.YtcgjihfngdhjjaaGreat
open Go Go.Ab
section
def O7 (x0:AV):Prog:=.op (.aS 7 0 [] []) fun a=>.loop [a,.int .i64 0] (fun a=>Ln 0 x0 fun b=>Bn .lss (g a 1) b fun b=>.ite b (Ix 7 x0 (g a 1) fun b=>.op (.fad 0 b) fun b=>.op (.ld1 b) fun c=>Ix 7 x0 (g a 1) fun d=>.op (.fad 1 d) fun d=>Ld 6 d fun d=>Cl kH [d] fun d=>.chk (.ld1 b) c (.op (.build pq [(0,1,c),(1,6,d)]) fun b=>.op (.aS 7 1 pq [(0,7,b)]) fun b=>.op (.app 7 72 (g a 0) b) fun b=>Bn .add (g a 1) (.int .i64 1) fun a=>.leaf 0 [b,a])) (.leaf 2 [g a 0,g a 1])) fun a b=>aC a 1 (.leaf 1 b) (aC a 2 (.fin [.val (g b 0)]) .bad)
theorem abv (x0:AV):CC Tryz.prog yE [x0] (O7 x0):=cc Tryz.func158 [0,3,4] (fun r=>if r=5 then[(0,[]),(1,[]),(2,[]),(3,[]),(4,[]),(5,[]),(6,[]),(7,[]),(8,[]),(9,[]),(10,[]),(11,[5]),(12,[]),(13,[]),(14,[]),(15,[])] else[])
end
theorem JQ (xs:List Itm) (hs:xs.length+szs xs≤67108864):vN Tryz.prog yE xs:=by
 intro v F h r
 refine abv _ ?_
 unfold O7
 have hsm:=r.small
 obtain⟨re,oe⟩:=gu (h:=h) (α:=Itm) (w:=7) rfl
 refine vs ?_
 refine aX xs.length (fun i vs h1=>∃ u G,vs=[u,.int .i64 (i:Int)]∧i≤xs.length∧Ext h h1∧ah h1 u (xs.take i) G∧Own h.n h1 G) ⟨_,_,rfl,Nat.zero_le _,(Ext.refl _).push _,by rw[List.take_zero];exact re,oe _ (Nat.le_refl _)⟩ ?_
 rintro i vs h1 _ ⟨u,G,rfl,hi,e1,ru,ou⟩
 have n1:=e1.1
 simp only[g0,g1]
 refine eG r ?_
 refine br (fun hlt=>?_) (fun hge=>?_)
 ·obtain⟨x,hx,-,htk⟩:=aU (show i < xs.length by omega)
  have hm:=dh (List.mem_of_getElem? hx)
  have hx2:Sz.sz x=Sz.sz x.s:=rfl
  (repeat' first|refine vs ?_|((with_reducible refine aG kH ?_);(refine aL (qC x.s (by omega) _ _ _ ⟨_,rfl,aB⟩) ?_;rintro _ h2 ⟨e2,_,G2,rfl,⟨w2,rfl,q2⟩,o2⟩;have n2:=e2.1;(try simp only[aJ,aN] at n2)))|((with_reducible refine bB ?_);((refine ix ?_);rintro _ _ _ _ _ ⟨_,rfl,_⟩ _))|fail)
  have hlen:(xs.take i).length=i:=by rw[List.length_take];omega
  refine app1 (n:=h.n) (xs:=xs.take i) (Fx:=G) (a:=x) aB ⟨_,rfl,q2⟩ (iK (aY) o2 (by omega) ng) aV rfl ?_ ?_ ?_
  ·rw[hlen];omega
  ·rw[hlen];omega
  intro u' h' F' ek kp r' o'
  (repeat' first|refine vs ?_|fail)
  exact⟨by omega,u',F',rfl,by omega,ek h aI (Nat.le_refl _),by rw[htk];exact r',o'⟩
 ·(repeat' first|refine vs ?_|fail)
  exact⟨rfl,u,rfl,e1,G,by rw[show i=xs.length by omega,List.take_length] at ru;exact ru,ou⟩
end Go.Proofs.YtcgjihfngdhjjaaGreat
end
section
set_option maxHeartbeats 2000000
namespace Go.Proofs.YtcgjihfngdhjjaaGreat
open Go Go.Ab
section
def Qj (x0:AV):Prog:=.op (.box x0) fun a=>.op (.alloc jR) fun b=>.op (.fad 2 a) fun c=>Ld 6 c fun c=>Cl kH [c] fun c=>.op (.fad 2 a) fun d=>.op (.st 6 d c) fun _=>Ld 20 a fun a=>.op (.st 20 b a) fun _=>.fin [.cn 20 b]
theorem acI (x0:AV):CC Tryz.prog Km [x0] (Qj x0):=cc Tryz.func225
end
theorem ab5 (x:aW) (hs:Sz.sz x≤67108864):mP aW Tryz.prog Km x:=by
 rintro cs F h ⟨v0,rfl,r0⟩
 have hx2:Sz.sz x=Sz.sz x.s:=rfl
 refine acI _ ?_
 unfold Qj
 (repeat' first|refine vs ?_|((with_reducible refine aG kH ?_);(refine aL (qC x.s (by omega) _ _ _ ⟨_,rfl,aB⟩) ?_;rintro _ h2 ⟨e2,_,G2,rfl,⟨w2,rfl,q2⟩,o2⟩;have n2:=e2.1;(try simp only[aJ,aN] at n2)))|fail)
 exact⟨rfl,_,rfl,aI,_,_,rfl,⟨_,rfl,aB⟩,aY⟩
end Go.Proofs.YtcgjihfngdhjjaaGreat
end
section
set_option maxHeartbeats 2000000
namespace Go.Proofs.YtcgjihfngdhjjaaGreat
open Go Go.Ab
section
def adD (x0:AV):Prog:=.op (.aS 20 0 [] []) fun a=>.loop [a,.int .i64 0] (fun a=>Ln 0 x0 fun b=>Bn .lss (g a 1) b fun b=>.ite b (Ix 20 x0 (g a 1) fun b=>Ld 20 b fun b=>Cl Km [b] fun b=>.op (.alloc jR) fun c=>.op (.st 20 c b) fun _=>Ld 20 c fun b=>.op (.aS 20 1 jR [(0,20,b)]) fun b=>.op (.app 20 168 (g a 0) b) fun b=>Bn .add (g a 1) (.int .i64 1) fun a=>.leaf 0 [b,a]) (.leaf 2 [g a 0,g a 1])) fun a b=>aC a 1 (.leaf 1 b) (aC a 2 (.fin [.val (g b 0)]) .bad)
theorem adU (x0:AV):CC Tryz.prog KE [x0] (adD x0):=cc Tryz.func160 [0,3,4] (fun _=>[])
def Qk (x0:AV):Prog:=.op (.box x0) fun a=>.op (.alloc ji) fun b=>Ld 12 a fun c=>.op (.alloc ji) fun d=>.op (.st 12 d c) fun _=>.op (.fad 2 a) fun c=>Ld 6 c fun c=>Cl kH [c] fun c=>.op (.fad 2 d) fun e=>.op (.st 6 e c) fun _=>Lg 10 a fun a=>Cl yE [a] fun a=>Sg 10 d a fun _=>Ld 12 d fun a=>.op (.st 12 b a) fun _=>.fin [.cn 12 b]
theorem acJ (x0:AV):CC Tryz.prog EN [x0] (Qk x0):=cc Tryz.func159
end
theorem adl (xs:List aW) (hs:xs.length+szs xs≤67108864):vN Tryz.prog KE xs:=fun v F h r=>
 adU _ (Li rfl rfl (by decide) (fun x hx=>ab5 x (by have:=dh hx;omega)) r (by omega))
theorem ab6 (x:Task) (hs:Sz.sz x≤67108864):mP Task Tryz.prog EN x:=by
 rintro cs F h ⟨v0,v1,F0,F1,rfl,rfl,r0,r1⟩
 have hx2:Sz.sz x=Sz.sz x.s+(x.hand.length+szs x.hand):=rfl
 refine acJ _ ?_
 unfold Qk
 (repeat' first|refine vs ?_|((with_reducible refine aG kH ?_);(refine aL (qC x.s (by omega) _ _ _ ⟨_,rfl,aB⟩) ?_;rintro _ h2 ⟨e2,_,G2,rfl,⟨w2,rfl,q2⟩,o2⟩;have n2:=e2.1;(try simp only[aJ,aN] at n2)))|((with_reducible refine aG yE ?_);(refine aL (JQ x.hand (by omega) _ _ _ aB) ?_;rintro w3 h3 ⟨e3,G3,q3,o3⟩;have n3:=e3.1;(try simp only[aJ,aN] at n3)))|fail)
 exact⟨rfl,_,rfl,aI,_,_,rfl,⟨_,_,_,_,rfl,rfl,aB,aB⟩,(iI gN gN ng).1⟩
end Go.Proofs.YtcgjihfngdhjjaaGreat
end
