import Derived.Test.YtekfdoknfcedpaaGreatDNm
import Derived.Test.YtekfdoknfcedpaaGreatDK4
section
set_option linter.unusedSimpArgs false
set_option linter.unusedVariables false
namespace Go.Proofs.YtekfdoknfcedpaaGreat
open Go Go.Ab
section
def Rv (x0 x1 x2:AV):Prog:=Bn .geq x0 x1 fun a=>.gop a true (.mv x0) fun b=>.gop a true (.mv x2) fun c=>.gop a true (.bin 0 .leq b c) fun b=>Pk a b (.bool false) fun a=>.fin [.val a]
theorem ahP (x0 x1 x2:AV):CC Tryz.prog bA [x0,x1,x2] (Rv x0 x1 x2):=cc Tryz.func44
def Sr (x0 x1 x2:AV):Prog:=Bn .geq x0 x1 fun a=>.gop a true (.mv x0) fun b=>.gop a true (.mv x2) fun c=>.gop a true (.bin 0 .leq b c) fun b=>Pk a b (.bool false) fun a=>.fin [.val a]
theorem aiH (x0 x1 x2:AV):CC Tryz.prog bI [x0,x1,x2] (Sr x0 x1 x2):=cc Tryz.func31
def Ti (x0:AV):Prog:=.op (.mnx false [x0,.int .i64 0]) fun a=>.op (.mnx true [a,.int .i64 2147483647]) fun a=>.fin [.val a]
theorem ajo (x0:AV):CC Tryz.prog wC [x0] (Ti x0):=cc Tryz.func220
def Tc (x0:AV):Prog:=Bn .lss x0 (.int .i64 0) fun a=>.ite a (.fin [.val (.int .i64 0)]) (Bn .gtr x0 (.int .i64 2147483647) fun a=>.ite a (.fin [.val (.int .i64 2147483647)]) (.fin [.val x0]))
theorem ajj (x0:AV):CC Tryz.prog wB [x0] (Tc x0):=cc Tryz.func262
def Tj (x0 x1:AV):Prog:=Cl wC [x0] fun a=>Cl wC [x1] fun b=>Bn .add a b fun a=>Cl wC [a] fun a=>.fin [.val a]
theorem ajp (x0 x1:AV):CC Tryz.prog Er [x0,x1] (Tj x0 x1):=cc Tryz.func215
def Td (x0 x1:AV):Prog:=Cl wB [x0] fun a=>Cl wB [x1] fun b=>Bn .add a b fun a=>Cl wB [a] fun a=>.fin [.val a]
theorem ajk (x0 x1:AV):CC Tryz.prog Eo [x0,x1] (Td x0 x1):=cc Tryz.func257
end
def inB (a lo hi:Int):Bool:=decide (lo≤a∧a≤hi)
theorem dD {a lo hi:Int} (h:inB a lo hi=true):lo≤a∧a≤hi:=by simpa[inB] using h
theorem dH {a lo hi:Int} (h:inB a lo hi=false): ¬ (lo≤a∧a≤hi):=by simpa[inB] using h
theorem iw {h:AH} {a lo hi:Int}:aO Tryz.prog bI [.int .i64 a,.int .i64 lo,.int .i64 hi] h (.bool (inB a lo hi)):=by
 refine reader (aiH _ _ _) (by simp only[old]) ?_
 unfold Sr
 (repeat' first|refine vs ?_|(refine br ?_ ?_<;>first|exact bx|intro _)|fail)
 all_goals(refine pb ?_;simp[inB];omega)
theorem gF {h:AH} {a lo hi:Int}:aO Tryz.prog bA [.int .i64 a,.int .i64 lo,.int .i64 hi] h (.bool (inB a lo hi)):=by
 refine reader (ahP _ _ _) (by simp only[old]) ?_
 unfold Rv
 (repeat' first|refine vs ?_|(refine br ?_ ?_<;>first|exact bx|intro _)|fail)
 all_goals(refine pb ?_;simp[inB];omega)
def cap (n:Int):Int:=min (max n 0) 2147483647
theorem Gr (n:Int):0≤cap n∧cap n≤2147483647:=by unfold cap;omega
theorem aiW {h:AH} {a:Int}:aO Tryz.prog wC [.int .i64 a] h (.int .i64 (cap a)):=by
 refine reader (ajo _) (by simp only[old]) ?_
 unfold Ti
 (repeat' first|refine vs ?_|fail)
 exact pi rfl
theorem aiR {h:AH} {a:Int}:aO Tryz.prog wB [.int .i64 a] h (.int .i64 (cap a)):=by
 refine reader (ajj _) (by simp only[old]) ?_
 unfold Tc
 (repeat' first|refine vs ?_|(refine br ?_ ?_<;>first|exact bx|intro _)|fail)
 all_goals(refine pi ?_;unfold cap;omega)
def gV (a b:Int):Int:=cap (cap a+cap b)
theorem aiX {h:AH} {a b:Int}:aO Tryz.prog Er [.int .i64 a,.int .i64 b] h (.int .i64 (gV a b)):=by
 refine reader (ajp _ _) (by simp only[old]) ?_
 unfold Tj
 have:=Gr a;have:=Gr b
 (repeat' first|refine vs ?_|((with_reducible refine ay wC ?_);refine aK aiW ?_)|fail)
 exact pi rfl
theorem aiS {h:AH} {a b:Int}:aO Tryz.prog Eo [.int .i64 a,.int .i64 b] h (.int .i64 (gV a b)):=by
 refine reader (ajk _ _) (by simp only[old]) ?_
 unfold Td
 have:=Gr a;have:=Gr b
 (repeat' first|refine vs ?_|((with_reducible refine ay wB ?_);refine aK aiR ?_)|fail)
 exact pi rfl
end Go.Proofs.YtekfdoknfcedpaaGreat
end
section
set_option linter.unusedSimpArgs false
set_option linter.unusedVariables false
namespace Go.Proofs.YtekfdoknfcedpaaGreat
open Go Go.Ab
section
def RB (x0:AV):Prog:=.loop [.int .i64 0] (fun a=>Ln 1 x0 fun b=>Bn .lss (g a 0) b fun b=>.ite b (.op (.iW x0 (g a 0)) fun b=>Bn .lss b (.int .u8 97) fun b=>.gop b false (.mv x0) fun c=>.gop b false (.mv (g a 0)) fun d=>.gop b false (.iW c d) fun c=>.gop b false (.bin 0 .gtr c (.int .u8 122)) fun c=>Pk b (.bool true) c fun b=>.ite b (.fin [.val (.bool false)]) (Bn .add (g a 0) (.int .i64 1) fun a=>.leaf 0 [a])) (.leaf 2 [g a 0])) fun a b=>ak a 1 (.leaf 1 b) (ak a 2 (Ln 1 x0 fun a=>Cl bA [a,.int .i64 1,.int .i64 8] fun a=>.fin [.val a]) .bad)
theorem ahV (x0:AV):CC Tryz.prog qH [x0] (RB x0):=cc Tryz.func326 [0,3] (fun _=>[])
def QZ (x0:AV):Prog:=.loop [.int .i64 0] (fun a=>Ln 1 x0 fun b=>Bn .lss (g a 0) b fun b=>.ite b (.op (.iW x0 (g a 0)) fun b=>Bn .lss b (.int .u8 97) fun b=>.gop b false (.mv x0) fun c=>.gop b false (.mv (g a 0)) fun d=>.gop b false (.iW c d) fun c=>.gop b false (.bin 0 .gtr c (.int .u8 122)) fun c=>Pk b (.bool true) c fun b=>.ite b (.fin [.val (.bool false)]) (Bn .add (g a 0) (.int .i64 1) fun a=>.leaf 0 [a])) (.leaf 2 [g a 0])) fun a b=>ak a 1 (.leaf 1 b) (ak a 2 (Ln 1 x0 fun a=>Cl bI [a,.int .i64 1,.int .i64 8] fun a=>.fin [.val a]) .bad)
theorem aho (x0:AV):CC Tryz.prog tq [x0] (QZ x0):=cc Tryz.func328 [0,3] (fun _=>[])
def Qu (x0:AV):Prog:=.loop [.int .i64 0] (fun a=>Ln 1 x0 fun b=>Bn .lss (g a 0) b fun b=>.ite b (.op (.iW x0 (g a 0)) fun b=>.op (.conv .i64 b) fun b=>Cl bA [b,.int .i64 32,.int .i64 126] fun b=>.op (.una .not b) fun b=>.gop b false (.mv x0) fun c=>.gop b false (.mv (g a 0)) fun d=>.gop b false (.iW c d) fun c=>.gop b false (.bin 0 .eql c (.int .u8 34)) fun c=>Pk b (.bool true) c fun b=>.ite b (.fin [.val (.bool false)]) (Bn .add (g a 0) (.int .i64 1) fun a=>.leaf 0 [a])) (.leaf 2 [g a 0])) fun a b=>ak a 1 (.leaf 1 b) (ak a 2 (Ln 1 x0 fun a=>Bn .leq a (.int .i64 20) fun a=>.fin [.val a]) .bad)
theorem agv (x0:AV):CC Tryz.prog vR [x0] (Qu x0):=cc Tryz.func327 [0,3] (fun _=>[])
def PY (x0:AV):Prog:=.loop [.int .i64 0] (fun a=>Ln 1 x0 fun b=>Bn .lss (g a 0) b fun b=>.ite b (.op (.iW x0 (g a 0)) fun b=>Bn .lss b (.int .u8 32) fun b=>.gop b false (.mv x0) fun c=>.gop b false (.mv (g a 0)) fun d=>.gop b false (.iW c d) fun c=>.gop b false (.bin 0 .gtr c (.int .u8 126)) fun c=>Pk b (.bool true) c fun b=>.gop b false (.mv x0) fun c=>.gop b false (.mv (g a 0)) fun d=>.gop b false (.iW c d) fun c=>.gop b false (.bin 0 .eql c (.int .u8 34)) fun c=>Pk b (.bool true) c fun b=>.ite b (.fin [.val (.bool false)]) (Bn .add (g a 0) (.int .i64 1) fun a=>.leaf 0 [a])) (.leaf 2 [g a 0])) fun a b=>ak a 1 (.leaf 1 b) (ak a 2 (Ln 1 x0 fun a=>Bn .leq a (.int .i64 20) fun a=>.fin [.val a]) .bad)
theorem afL (x0:AV):CC Tryz.prog vK [x0] (PY x0):=cc Tryz.func329 [0,3] (fun _=>[])
def RI (x0:AV):Prog:=.op (.box x0) fun a=>Lg 1 a fun b=>.ite b (Lg 0 a fun b=>Cl qH [b] fun b=>Gf b true 2 a fun c=>.gop b true (.call bA [c,.int .i64 0,.int .i64 2147483647]) fun c=>Pk b c (.bool false) fun b=>Gf b true 3 a fun a=>.gop b true (.bin 1 .eql a (.str ⟨#[]⟩)) fun a=>Pk b a (.bool false) fun a=>.fin [.val a]) (Lg 0 a fun b=>Cl qH [b] fun b=>Gf b true 3 a fun c=>.gop b true (.call vR [c]) fun c=>Pk b c (.bool false) fun b=>Gf b true 2 a fun a=>.gop b true (.bin 0 .eql a (.int .i64 0)) fun a=>Pk b a (.bool false) fun a=>.fin [.val a])
theorem ah0 (x0:AV):CC Tryz.prog Ec [x0] (RI x0):=cc Tryz.func306
def Q8 (x0:AV):Prog:=.op (.box x0) fun a=>Lg 0 a fun b=>Cl tq [b] fun b=>.op (.una .not b) fun b=>.ite b (.fin [.val (.bool false)]) (Lg 1 a fun b=>.ite b (Lg 2 a fun b=>Cl bI [b,.int .i64 0,.int .i64 2147483647] fun b=>Gf b true 3 a fun a=>.gop b true (.bin 1 .eql a (.str ⟨#[]⟩)) fun a=>Pk b a (.bool false) fun a=>.fin [.val a]) (Lg 2 a fun b=>Bn .eql b (.int .i64 0) fun b=>Gf b true 3 a fun a=>.gop b true (.call vK [a]) fun a=>Pk b a (.bool false) fun a=>.fin [.val a]))
theorem aht (x0:AV):CC Tryz.prog DZ [x0] (Q8 x0):=cc Tryz.func310
def O7 (x0:AV):Prog:=.op (.box x0) fun a=>Lg 1 a fun b=>.ite b (Lg 0 a fun a=>Ln 1 a fun a=>Bn .add a (.int .i64 4) fun a=>.fin [.val a]) (Lg 0 a fun b=>Ln 1 b fun b=>Lg 3 a fun a=>Ln 1 a fun a=>Bn .add b a fun a=>.fin [.val a])
theorem aex (x0:AV):CC Tryz.prog CK [x0] (O7 x0):=cc Tryz.func239
def Oz (x0:AV):Prog:=.op (.box x0) fun a=>Lg 1 a fun b=>.ite b (Lg 0 a fun a=>Ln 1 a fun a=>Bn .add a (.int .i64 4) fun a=>.fin [.val a]) (Lg 0 a fun b=>Ln 1 b fun b=>Lg 3 a fun a=>Ln 1 a fun a=>Bn .add b a fun a=>.fin [.val a])
theorem adX (x0:AV):CC Tryz.prog Cq [x0] (Oz x0):=cc Tryz.func296
end
def qg (c:UInt8):Prop:=97≤(c.toNat:Int)∧(c.toNat:Int)≤122
def uw (s:ByteArray):Prop:=(∀ c∈bys s,qg c)∧1≤(s.size:Int)∧(s.size:Int)≤8
theorem QI {h:AH} {s:ByteArray} (hs:s.size≤maxLen):aO Tryz.prog qH [.str s] h (.bool (bp (uw s))):=by
 refine reader (ahV _) (by simp only[old]) ?_
 unfold RB
 have hs:s.size≤9223372036854775807:=hs
 have hl:=wU s
 refine aT s.size (fun i vs h1=>vs=[.int .i64 (i:Int)]∧i≤s.size∧h1=h∧bZ (bys s) (fun _=>qg) i) ⟨rfl,Nat.zero_le _,rfl,up0⟩ ?_
 rintro i vs h1 _ ⟨rfl,hi,rfl,hu⟩
 simp only[g0]
 (repeat' first|refine vs ?_|(refine br ?_ ?_<;>first|exact bx|intro _)|((with_reducible refine ay bA ?_);refine aK gF ?_)|(refine sx ?_;intro _ _)|fail)
 ·exact pf fun k=>iT (by assumption) (by unfold qg;omega) k.1
 ·exact pf fun k=>iT (by assumption) (by unfold qg;omega) k.1
 ·exact⟨by omega,rfl,by omega,rfl,upS hu (by assumption) (by unfold qg;omega)⟩
 ·have e:i=(bys s).length:=by omega
  rw[e] at hu
  exact pb (LK (by simp only[inB,decide_eq_true_eq,uw];exact⟨fun k=>⟨fZ hu,k⟩,fun k=>k.2⟩))
theorem QE {h:AH} {s:ByteArray} (hs:s.size≤maxLen):aO Tryz.prog tq [.str s] h (.bool (bp (uw s))):=by
 refine reader (aho _) (by simp only[old]) ?_
 unfold QZ
 have hs:s.size≤9223372036854775807:=hs
 have hl:=wU s
 refine aT s.size (fun i vs h1=>vs=[.int .i64 (i:Int)]∧i≤s.size∧h1=h∧bZ (bys s) (fun _=>qg) i) ⟨rfl,Nat.zero_le _,rfl,up0⟩ ?_
 rintro i vs h1 _ ⟨rfl,hi,rfl,hu⟩
 simp only[g0]
 (repeat' first|refine vs ?_|(refine br ?_ ?_<;>first|exact bx|intro _)|((with_reducible refine ay bI ?_);refine aK iw ?_)|(refine sx ?_;intro _ _)|fail)
 ·exact pf fun k=>iT (by assumption) (by unfold qg;omega) k.1
 ·exact pf fun k=>iT (by assumption) (by unfold qg;omega) k.1
 ·exact⟨by omega,rfl,by omega,rfl,upS hu (by assumption) (by unfold qg;omega)⟩
 ·have e:i=(bys s).length:=by omega
  rw[e] at hu
  exact pb (LK (by simp only[inB,decide_eq_true_eq,uw];exact⟨fun k=>⟨fZ hu,k⟩,fun k=>k.2⟩))
def uj (c:UInt8):Prop:=32≤(c.toNat:Int)∧(c.toNat:Int)≤126∧(c.toNat:Int)≠34
def EU (s:ByteArray):Prop:=(∀ c∈bys s,uj c)∧(s.size:Int)≤20
theorem Po {h : AH} {s : ByteArray} (hs : s.size ≤ maxLen) : aO Tryz.prog vR [.str s] h (.bool (bp (EU s))) := by
  refine reader (agv _) (by simp only [old]) ?_
  unfold Qu
  have hs : s.size ≤ 9223372036854775807 := hs
  have hl := wU s
  refine aT s.size (fun i vs h1 => vs = [.int .i64 (i : Int)] ∧ i ≤ s.size ∧ h1 = h ∧ bZ (bys s) (fun _ => uj) i) ⟨rfl, Nat.zero_le _, rfl, up0⟩ ?_
  rintro i vs h1 _ ⟨rfl, hi, rfl, hu⟩
  simp only [g0]
  (repeat' first|refine vs ?_|(refine br ?_ ?_<;>first|exact bx|intro _)|((with_reducible refine ay bA ?_);(refine cZ gF ?_ ?_ <;> intro hb <;> first|replace hb := dD hb|replace hb := dH hb))|(refine sx ?_;intro _ _)|fail)
  all_goals first
    | exact pf fun k => iT (by assumption) (by unfold uj; omega) k.1
    | exact ⟨by omega, rfl, by omega, rfl, upS hu (by assumption) (by unfold uj; omega)⟩
    | (have e : i = (bys s).length := by omega
       rw [e] at hu
       first|exact pt ⟨fZ hu, by omega⟩|exact pf fun k => by have := k.2; omega)
theorem Pb {h : AH} {s : ByteArray} (hs : s.size ≤ maxLen) : aO Tryz.prog vK [.str s] h (.bool (bp (EU s))) := by
  refine reader (afL _) (by simp only [old]) ?_
  unfold PY
  have hs : s.size ≤ 9223372036854775807 := hs
  have hl := wU s
  refine aT s.size (fun i vs h1 => vs = [.int .i64 (i : Int)] ∧ i ≤ s.size ∧ h1 = h ∧ bZ (bys s) (fun _ => uj) i) ⟨rfl, Nat.zero_le _, rfl, up0⟩ ?_
  rintro i vs h1 _ ⟨rfl, hi, rfl, hu⟩
  simp only [g0]
  (repeat' first|refine vs ?_|(refine br ?_ ?_<;>first|exact bx|intro _)|(refine sx ?_;intro _ _)|fail)
  all_goals first
    | exact pf fun k => iT (by assumption) (by unfold uj; omega) k.1
    | exact ⟨by omega, rfl, by omega, rfl, upS hu (by assumption) (by unfold uj; omega)⟩
    | (have e : i = (bys s).length := by omega
       rw [e] at hu
       first|exact pt ⟨fZ hu, by omega⟩|exact pf fun k => by have := k.2; omega)
def empty:ByteArray:=⟨#[]⟩
def pY (a:Attr):Prop:=uw a.key∧((a.num=true∧(0≤a.n∧a.n≤2147483647)∧a.text=empty)∨(a.num=false∧a.n=0∧EU a.text))
theorem ag3 {h:AH} {a:Attr} (ok:Cel.ok a):aO Tryz.prog Ec [.agg a.cs] h (.bool (bp (pY a))):=by
 refine reader (ah0 _) (by simp only[old]) ?_
 unfold RI
 obtain⟨k1,k2,k3⟩:=ok
 have k1:a.key.size≤maxLen:=k1
 have k3:a.text.size≤maxLen:=k3
 (repeat' first|refine vs ?_|(refine br ?_ ?_<;>first|exact bx|intro _)|((with_reducible refine ay qH ?_);(refine aU (QI k1) ?_ ?_<;>intro hn))|((with_reducible refine ay vR ?_);(refine aU (Po k3) ?_ ?_<;>intro hp))|((with_reducible refine ay bA ?_);(refine cZ gF ?_ ?_<;>intro hb<;>first|replace hb:=dD hb|replace hb:=dH hb))|fail)
 all_goals first
  |(refine pt ?_;unfold pY;simp_all [empty];done)
  |(refine pf ?_;unfold pY;simp_all [empty];done)
  |(refine pf ?_;unfold pY;simp_all [empty];intros;omega)
theorem agI {h:AH} {a:Attr} (ok:Cel.ok a):aO Tryz.prog DZ [.agg a.cs] h (.bool (bp (pY a))):=by
 refine reader (aht _) (by simp only[old]) ?_
 unfold Q8
 obtain⟨k1,k2,k3⟩:=ok
 have k1:a.key.size≤maxLen:=k1
 have k3:a.text.size≤maxLen:=k3
 (repeat' first|refine vs ?_|(refine br ?_ ?_<;>first|exact bx|intro _)|((with_reducible refine ay tq ?_);(refine aU (QE k1) ?_ ?_<;>intro hn))|((with_reducible refine ay vK ?_);(refine aU (Pb k3) ?_ ?_<;>intro hp))|((with_reducible refine ay bI ?_);(refine cZ iw ?_ ?_<;>intro hb<;>first|replace hb:=dD hb|replace hb:=dH hb))|fail)
 all_goals first
  |(refine pt ?_;unfold pY;simp_all [empty];done)
  |(refine pf ?_;unfold pY;simp_all [empty];done)
  |(refine pf ?_;unfold pY;simp_all [empty];intros;omega)
def nJ (a:Attr):Int:=if a.num=true then a.key.size+4 else a.key.size+a.text.size
theorem adE {h:AH} {a:Attr} (hs:Sz.sz a≤67108864):aO Tryz.prog CK [.agg a.cs] h (.int .i64 (nJ a)):=by
 refine reader (aex _) (by simp only[old]) ?_
 unfold O7
 have hs:a.key.size+a.text.size≤67108864:=hs
 (repeat' first|refine vs ?_|(refine br ?_ ?_<;>first|exact bx|intro _)|fail)
 all_goals exact pi (by simp[nJ, *])
theorem adf {h:AH} {a:Attr} (hs:Sz.sz a≤67108864):aO Tryz.prog Cq [.agg a.cs] h (.int .i64 (nJ a)):=by
 refine reader (adX _) (by simp only[old]) ?_
 unfold Oz
 have hs:a.key.size+a.text.size≤67108864:=hs
 (repeat' first|refine vs ?_|(refine br ?_ ?_<;>first|exact bx|intro _)|fail)
 all_goals exact pi (by simp[nJ, *])
end Go.Proofs.YtekfdoknfcedpaaGreat
end
section
set_option linter.unusedSimpArgs false
set_option linter.unusedVariables false
namespace Go.Proofs.YtekfdoknfcedpaaGreat
open Go Go.Ab
section
def Qy (x0:AV):Prog:=Ln 0 x0 fun a=>.loop [.int .i64 0] (fun b=>Bn .lss (g b 0) a fun a=>.ite a (Ix 4 x0 (g b 0) fun a=>Ld 4 a fun a=>.op (.alloc [.str ⟨#[]⟩,.bool false,.int .i64 0,.str ⟨#[]⟩]) fun c=>.op (.st 4 c a) fun _=>Ld 4 c fun a=>Cl Ec [a] fun a=>.op (.una .not a) fun a=>.gop a false (.mv (g b 0)) fun d=>.gop a false (.bin 0 .gtr d (.int .i64 0)) fun d=>.gop a false (.mv d) fun d=>.gop d true (.mv x0) fun e=>.gop d true (.mv (g b 0)) fun f=>.gop d true (.bin 0 .sub f (.int .i64 1)) fun f=>.gop d true (.idx 4 e f) fun e=>Gf d true 0 e fun e=>Gf d true 0 c fun c=>.gop d true (.bin 1 .geq e c) fun c=>.gop a false (.pick d c (.bool false)) fun c=>Pk a (.bool true) c fun a=>.ite a (.fin [.val (.bool false)]) (Bn .add (g b 0) (.int .i64 1) fun a=>.leaf 0 [a])) (.leaf 2 [g b 0])) fun a b=>ak a 1 (.leaf 1 b) (ak a 2 (Ln 0 x0 fun a=>Bn .leq a (.int .i64 4) fun a=>.fin [.val a]) .bad)
theorem agy (x0:AV):CC Tryz.prog DF [x0] (Qy x0):=cc Tryz.func246 [0,5,6,7] (fun r=>if r=4 then[(0,[]),(1,[]),(2,[]),(3,[]),(4,[]),(5,[]),(6,[]),(7,[]),(8,[]),(9,[]),(10,[]),(11,[]),(12,[]),(13,[]),(14,[]),(15,[]),(16,[]),(17,[])] else[])
def P6 (x0:AV):Prog:=.loop [.int .i64 0] (fun a=>Ln 0 x0 fun b=>Bn .lss (g a 0) b fun b=>.ite b (Ix 4 x0 (g a 0) fun b=>Ld 4 b fun b=>Cl DZ [b] fun b=>.op (.una .not b) fun b=>.gop b false (.mv (g a 0)) fun c=>.gop b false (.bin 0 .gtr c (.int .i64 0)) fun c=>.gop b false (.mv c) fun c=>.gop c true (.mv x0) fun d=>.gop c true (.mv (g a 0)) fun e=>.gop c true (.bin 0 .sub e (.int .i64 1)) fun e=>.gop c true (.idx 4 d e) fun d=>Gf c true 0 d fun d=>.gop c true (.mv x0) fun e=>.gop c true (.mv (g a 0)) fun f=>.gop c true (.idx 4 e f) fun e=>Gf c true 0 e fun e=>.gop c true (.bin 1 .geq d e) fun d=>.gop b false (.pick c d (.bool false)) fun c=>Pk b (.bool true) c fun b=>.ite b (.fin [.val (.bool false)]) (Bn .add (g a 0) (.int .i64 1) fun a=>.leaf 0 [a])) (.leaf 2 [g a 0])) fun a b=>ak a 1 (.leaf 1 b) (ak a 2 (Ln 0 x0 fun a=>Bn .leq a (.int .i64 4) fun a=>.fin [.val a]) .bad)
theorem afO (x0:AV):CC Tryz.prog Da [x0] (P6 x0):=cc Tryz.func253 [0,3] (fun r=>if r=4 then[(0,[]),(1,[]),(2,[]),(3,[]),(4,[]),(5,[]),(6,[]),(7,[]),(8,[]),(9,[]),(10,[]),(11,[]),(12,[]),(13,[]),(14,[]),(15,[]),(16,[]),(17,[]),(18,[]),(19,[]),(20,[]),(21,[]),(22,[]),(23,[])] else[])
def RA (x0:AV):Prog:=.op (.box x0) fun a=>Lg 5 a fun a=>Ln 0 a fun b=>.loop [.int .i64 12,.int .i64 0] (fun c=>Bn .lss (g c 1) b fun b=>.ite b (Ix 4 a (g c 1) fun a=>Ld 4 a fun a=>.op (.alloc [.str ⟨#[]⟩,.bool false,.int .i64 0,.str ⟨#[]⟩]) fun b=>.op (.st 4 b a) fun _=>Ld 4 b fun a=>Cl CK [a] fun a=>Bn .add (g c 0) a fun a=>Bn .add (g c 1) (.int .i64 1) fun b=>.leaf 0 [a,b]) (.leaf 2 [g c 0,g c 1])) fun a b=>ak a 1 (.leaf 1 b) (ak a 2 (.fin [.val (g b 0)]) .bad)
theorem ahU (x0:AV):CC Tryz.prog jv [x0] (RA x0):=cc Tryz.func155 [3,7,8,9] (fun _=>[])
def QY (x0:AV):Prog:=.op (.box x0) fun a=>.loop [.int .i64 12,.int .i64 0] (fun b=>Lg 5 a fun c=>Ln 0 c fun c=>Bn .lss (g b 1) c fun c=>.ite c (Lg 5 a fun a=>Ix 4 a (g b 1) fun a=>Ld 4 a fun a=>Cl Cq [a] fun a=>Bn .add (g b 0) a fun a=>Bn .add (g b 1) (.int .i64 1) fun b=>.leaf 0 [a,b]) (.leaf 2 [g b 0,g b 1])) fun a b=>ak a 1 (.leaf 1 b) (ak a 2 (.fin [.val (g b 0)]) .bad)
theorem ahn (x0:AV):CC Tryz.prog jr [x0] (QY x0):=cc Tryz.func232 [1,3,4] (fun _=>[])
def Rz (x0:AV):Prog:=.op (.box x0) fun a=>Lg 0 a fun b=>Cl bA [b,.int .i64 1,.int .i64 999] fun b=>Gf b true 1 a fun c=>.gop b true (.call bA [c,.int .i64 1,.int .i64 999]) fun c=>Pk b c (.bool false) fun b=>Gf b true 3 a fun c=>.gop b true (.call bA [c,.int .i64 0,.int .i64 99999]) fun c=>Pk b c (.bool false) fun b=>Gf b true 2 a fun c=>Gf b true 3 a fun d=>.gop b true (.call bA [c,.int .i64 0,d]) fun c=>Pk b c (.bool false) fun b=>Gf b true 5 a fun c=>.gop b true (.call DF [c]) fun c=>Pk b c (.bool false) fun b=>.gop b true (.ldn 6 a) fun a=>.gop b true (.call jv [a]) fun a=>.gop b true (.bin 0 .leq a (.int .i64 96)) fun a=>Pk b a (.bool false) fun a=>.fin [.val a]
theorem ahT (x0:AV):CC Tryz.prog qG [x0] (Rz x0):=cc Tryz.func164
def QX (x0:AV):Prog:=.op (.box x0) fun a=>Lg 0 a fun b=>Cl bI [b,.int .i64 1,.int .i64 999] fun b=>Gf b true 1 a fun c=>.gop b true (.call bI [c,.int .i64 1,.int .i64 999]) fun c=>Pk b c (.bool false) fun b=>Gf b true 2 a fun c=>.gop b true (.call bI [c,.int .i64 0,.int .i64 99999]) fun c=>Pk b c (.bool false) fun b=>Gf b true 3 a fun c=>Gf b true 2 a fun d=>.gop b true (.call bI [c,d,.int .i64 99999]) fun c=>Pk b c (.bool false) fun b=>Gf b true 5 a fun c=>.gop b true (.call Da [c]) fun c=>Pk b c (.bool false) fun b=>.gop b true (.ldn 6 a) fun a=>.gop b true (.call jr [a]) fun a=>.gop b true (.bin 0 .leq a (.int .i64 96)) fun a=>Pk b a (.bool false) fun a=>.fin [.val a]
theorem ahm (x0:AV):CC Tryz.prog qE [x0] (QX x0):=cc Tryz.func178
def Qt (x0:AV):Prog:=Ln 0 x0 fun a=>.loop [.int .i64 0,.int .i64 0] (fun b=>Bn .lss (g b 1) a fun a=>.ite a (Ix 6 x0 (g b 1) fun a=>Ld 6 a fun a=>.op (.alloc iJ) fun c=>.op (.st 6 c a) fun _=>Ld 6 c fun a=>Cl jv [a] fun a=>Bn .add (g b 0) a fun a=>Bn .add (g b 1) (.int .i64 1) fun b=>.leaf 0 [a,b]) (.leaf 2 [g b 0,g b 1])) fun a b=>ak a 1 (.leaf 1 b) (ak a 2 (.fin [.val (g b 0)]) .bad)
theorem agu (x0:AV):CC Tryz.prog Dz [x0] (Qt x0):=cc Tryz.func292 [3,6,7,8] (fun _=>[])
def PX (x0:AV):Prog:=.loop [.int .i64 0,.int .i64 0] (fun a=>Ln 0 x0 fun b=>Bn .lss (g a 1) b fun b=>.ite b (Ix 6 x0 (g a 1) fun b=>Ld 6 b fun b=>Cl jr [b] fun b=>Bn .add (g a 0) b fun b=>Bn .add (g a 1) (.int .i64 1) fun a=>.leaf 0 [b,a]) (.leaf 2 [g a 0,g a 1])) fun a b=>ak a 1 (.leaf 1 b) (ak a 2 (.fin [.val (g b 0)]) .bad)
theorem afK (x0:AV):CC Tryz.prog C8 [x0] (PX x0):=cc Tryz.func251 [0,3,4] (fun _=>[])
end
def kge (a b:ByteArray):Bool:=!(Op.bytesLess a.toList b.toList)
def zX (l:List Attr) (i:Nat) (a:Attr):Prop:=pY a∧∀ b,0 < i→l[((i:Int) - 1).toNat]? =some b→kge b.key a.key=false
def K4 (l:List Attr):Prop:=(∀ i a,l[i]? =some a→zX l i a)∧(l.length:Int)≤4
theorem afc {h:AH} {l:List Attr} {v:AV} {F:List Nat} (ok:∀ x∈l,Cel.ok x) (r:aj h v l F):aO Tryz.prog DF [v] h (.bool (bp (K4 l))):=by
 refine reader (agy _) (by simp only[old]) ?_
 unfold Qy
 have hsm:=r.small
 refine vs ?_
 refine aT l.length (fun i vs h1=>vs=[.int .i64 (i:Int)]∧i≤l.length∧Ext h h1∧bZ l (zX l) i) ⟨rfl,Nat.zero_le _,Ext.refl _,up0⟩ ?_
 rintro i vs h1 _ ⟨rfl,hi,e1,hu⟩
 simp only[g0]
 refine br (fun hlt=>?_) (fun hge=>?_)
 ·obtain⟨x,hx,-,-⟩:=aQ (show i < l.length by omega)
  have okx:=ok x (List.mem_of_getElem? hx)
  (repeat' first|refine vs ?_|(refine br ?_ ?_<;>first|exact bx|intro _)|((with_reducible refine ay Ec ?_);(refine aU (ag3 okx) ?_ ?_<;>intro hn))|((with_reducible refine aP ?_);((first|refine ix ?_|(refine kZ ?_;intro _ _));rintro _ _ _ _ _ ⟨rfl,rfl⟩ _))|fail)
  all_goals first
   |(refine pf fun k=>?_;have k:=k.1 i x hx;simp_all [zX,kge];done)
   |(refine⟨by omega,rfl,by omega,aA,upS hu hx ⟨hn,fun b h0 hb=>?_⟩⟩;first|(exfalso;omega)|(simp_all [kge];done))
 ·(repeat' first|refine vs ?_|(refine br ?_ ?_<;>first|exact bx|intro _)|fail)
  all_goals(have e:i=l.length:=(by omega);rw[e] at hu;first|exact pt ⟨jE hu,by omega⟩|exact pf fun k=>by have:=k.2;omega)
theorem aeJ {h:AH} {l:List Attr} {v:AV} {F:List Nat} (ok:∀ x∈l,Cel.ok x) (r:aj h v l F):aO Tryz.prog Da [v] h (.bool (bp (K4 l))):=by
 refine reader (afO _) (by simp only[old]) ?_
 unfold P6
 have hsm:=r.small
 refine aT l.length (fun i vs h1=>vs=[.int .i64 (i:Int)]∧i≤l.length∧Ext h h1∧bZ l (zX l) i) ⟨rfl,Nat.zero_le _,Ext.refl _,up0⟩ ?_
 rintro i vs h1 _ ⟨rfl,hi,e1,hu⟩
 simp only[g0]
 refine vs ?_
 refine br (fun hlt=>?_) (fun hge=>?_)
 ·obtain⟨x,hx,-,-⟩:=aQ (show i < l.length by omega)
  have okx:=ok x (List.mem_of_getElem? hx)
  (repeat' first|refine vs ?_|(refine br ?_ ?_<;>first|exact bx|intro _)|((with_reducible refine ay DZ ?_);(refine aU (agI okx) ?_ ?_<;>intro hn))|((with_reducible refine aP ?_);((first|refine ix ?_|(refine kZ ?_;intro _ _));rintro _ _ _ _ _ ⟨rfl,rfl⟩ _))|fail)
  all_goals first
   |(refine pf fun k=>?_;have k:=k.1 i x hx;simp_all [zX,kge];done)
   |(refine⟨by omega,rfl,by omega,aA,upS hu hx ⟨hn,fun b h0 hb=>?_⟩⟩;first|(exfalso;omega)|(simp_all [kge];done))
 ·(repeat' first|refine vs ?_|(refine br ?_ ?_<;>first|exact bx|intro _)|fail)
  all_goals(have e:i=l.length:=(by omega);rw[e] at hu;first|exact pt ⟨jE hu,by omega⟩|exact pf fun k=>by have:=k.2;omega)
def cO {α:Type} (f:α→Int):List α→Int
 |[]=>0
 |x::l=>f x+cO f l
theorem EF {α:Type} (f:α→Int):∀ l r:List α,cO f (l++r)=cO f l+cO f r
 |[],r=>by simp[cO]
 |x::l,r=>by simp only[List.cons_append,cO,EF f l];omega
theorem nE {α:Type} (f:α→Int) {xs:List α} {i:Nat} {x:α} (ht:xs.take (i+1)=xs.take i++[x]):cO f (xs.take (i+1))=cO f (xs.take i)+f x:=by rw[ht,EF];simp[cO]
theorem pK {α:Type} [Sz α] {f:α→Int} {a b:Int} (hb:∀ x,0≤f x∧f x≤a+b * (Sz.sz x:Nat)):∀ l:List α,0≤cO f l∧cO f l≤a * l.length+b * (szs l:Nat)
 |[]=>by simp[cO,szs]
 |x::l=>by
  have h1:=hb x;have h2:=pK hb l
  simp only[cO,szs,List.length_cons]
  have e1:a * ((l.length+1:Nat):Int)=a * l.length+a:=by rw[Int.natCast_add,Int.mul_add];simp
  have e2:b * ((Sz.sz x+szs l:Nat):Int)=b * (Sz.sz x:Nat)+b * (szs l:Nat):=by rw[Int.natCast_add,Int.mul_add]
  omega
theorem za (a:Attr):0≤nJ a∧nJ a≤4+1 * (Sz.sz a:Nat):=by
 have:Sz.sz a=a.key.size+a.text.size:=rfl
 unfold nJ;split<;>omega
def dM (s:Span):Int:=12+cO nJ s.attrs
theorem yX (s:Span):0≤dM s∧dM s≤12+4 * (Sz.sz s:Nat):=by
 have:Sz.sz s=s.attrs.length+szs s.attrs:=rfl
 have:=pK za s.attrs
 unfold dM;omega
theorem qD {h:AH} {s:Span} {v:AV} {F:List Nat} (hs:Sz.sz s≤67108864) (r:aj h v s.attrs F):aO Tryz.prog jv [.agg (s.cs v)] h (.int .i64 (dM s)):=by
 refine reader (ahU _) (by simp only[old]) ?_
 unfold RA
 have hsz:Sz.sz s=s.attrs.length+szs s.attrs:=rfl
 have hsm:=r.small
 refine vs ?_
 refine aT s.attrs.length (fun i vs h1=>vs=[.int .i64 (12+cO nJ (s.attrs.take i)),.int .i64 (i:Int)]∧i≤s.attrs.length∧Ext h h1) ⟨rfl,Nat.zero_le _,aA⟩ ?_
 rintro i vs h1 _ ⟨rfl,hi,e1⟩
 simp only[g0,g1]
 refine br (fun hlt=>?_) (fun hge=>?_)
 ·obtain⟨x,hx,-,ht⟩:=aQ (show i < s.attrs.length by omega)
  have h2:=za x
  have h3:=pK za (s.attrs.take i)
  have h4:=iP s.attrs i
  have h5:=bf (List.mem_of_getElem? hx)
  rw[List.length_take] at h3
  (repeat' first|refine vs ?_|((with_reducible refine ay CK ?_);refine aK (adE (by omega)) ?_)|((with_reducible refine aP ?_);((refine ix ?_);rintro _ _ _ _ _ ⟨rfl,rfl⟩ _))|fail)
  exact⟨by omega,by rw[nE _ ht,Int.add_assoc],by omega,aA⟩
 ·(repeat' first|refine vs ?_|fail)
  refine pi ?_
  rw[show i=s.attrs.length by omega,List.take_length];rfl
theorem qC {h:AH} {s:Span} {v:AV} {F:List Nat} (hs:Sz.sz s≤67108864) (r:aj h v s.attrs F):aO Tryz.prog jr [.agg (s.cs v)] h (.int .i64 (dM s)):=by
 refine reader (ahn _) (by simp only[old]) ?_
 unfold QY
 have hsz:Sz.sz s=s.attrs.length+szs s.attrs:=rfl
 have hsm:=r.small
 refine vs ?_
 refine aT s.attrs.length (fun i vs h1=>vs=[.int .i64 (12+cO nJ (s.attrs.take i)),.int .i64 (i:Int)]∧i≤s.attrs.length∧Ext (h.push ⟨s.cs v,0,0⟩) h1) ⟨rfl,Nat.zero_le _,aA⟩ ?_
 rintro i vs h1 _ ⟨rfl,hi,e1⟩
 simp only[g0,g1]
 refine vs ?_
 refine br (fun hlt=>?_) (fun hge=>?_)
 ·obtain⟨x,hx,-,ht⟩:=aQ (show i < s.attrs.length by omega)
  have h2:=za x
  have h3:=pK za (s.attrs.take i)
  have h4:=iP s.attrs i
  have h5:=bf (List.mem_of_getElem? hx)
  rw[List.length_take] at h3
  (repeat' first|refine vs ?_|((with_reducible refine ay Cq ?_);refine aK (adf (by omega)) ?_)|((with_reducible refine aP ?_);((refine ix ?_);rintro _ _ _ _ _ ⟨rfl,rfl⟩ _))|fail)
  exact⟨by omega,by rw[nE _ ht,Int.add_assoc],by omega,aA⟩
 ·(repeat' first|refine vs ?_|fail)
  refine pi ?_
  rw[show i=s.attrs.length by omega,List.take_length];rfl
def pO (s:Span):Prop:=(1≤s.trace∧s.trace≤999)∧(1≤s.id∧s.id≤999)∧(0≤s.start∧s.start≤s.fin∧s.fin≤99999)∧K4 s.attrs∧dM s≤96
theorem Jv {h:AH} {s:Span} {v:AV} {F:List Nat} (ok:Cel.ok s) (hs:Sz.sz s≤67108864) (r:aj h v s.attrs F):aO Tryz.prog qG [.agg (s.cs v)] h (.bool (bp (pO s))):=by
 refine reader (ahT _) (by simp only[old]) ?_
 unfold Rz
 obtain⟨k1,k2,k3,k4,k5⟩:=ok
 (repeat' first|refine vs ?_|(refine br ?_ ?_<;>first|exact bx|intro _)|((with_reducible refine ay bA ?_);(refine cZ gF ?_ ?_<;>intro hb<;>first|replace hb:=dD hb|replace hb:=dH hb))|((with_reducible refine ay DF ?_);(refine aU (afc k5 ah) ?_ ?_<;>intro hn))|((with_reducible refine ay jv ?_);refine aK (qD hs ah) ?_)|fail)
 all_goals first
  |exact pt ⟨by omega,by omega,by omega,by assumption,by omega⟩
  |exact pf fun k=>by obtain⟨a1,a2,a3,a4,a5⟩:=k;first|omega|contradiction
theorem Jt {h:AH} {s:Span} {v:AV} {F:List Nat} (ok:Cel.ok s) (hs:Sz.sz s≤67108864) (r:aj h v s.attrs F):aO Tryz.prog qE [.agg (s.cs v)] h (.bool (bp (pO s))):=by
 refine reader (ahm _) (by simp only[old]) ?_
 unfold QX
 obtain⟨k1,k2,k3,k4,k5⟩:=ok
 (repeat' first|refine vs ?_|(refine br ?_ ?_<;>first|exact bx|intro _)|((with_reducible refine ay bI ?_);(refine cZ iw ?_ ?_<;>intro hb<;>first|replace hb:=dD hb|replace hb:=dH hb))|((with_reducible refine ay Da ?_);(refine aU (aeJ k5 ah) ?_ ?_<;>intro hn))|((with_reducible refine ay jr ?_);refine aK (qC hs ah) ?_)|fail)
 all_goals first
  |exact pt ⟨by omega,by omega,by omega,by assumption,by omega⟩
  |exact pf fun k=>by obtain⟨a1,a2,a3,a4,a5⟩:=k;first|omega|contradiction
theorem afa {h:AH} {l:List Span} {v:AV} {F:List Nat} (hs:l.length+szs l≤67108864) (r:aj h v l F):aO Tryz.prog Dz [v] h (.int .i64 (cO dM l)):=by
 refine reader (agu _) (by simp only[old]) ?_
 unfold Qt
 have hsm:=r.small
 refine vs ?_
 refine aT l.length (fun i vs h1=>vs=[.int .i64 (cO dM (l.take i)),.int .i64 (i:Int)]∧i≤l.length∧Ext h h1) ⟨rfl,Nat.zero_le _,aA⟩ ?_
 rintro i vs h1 _ ⟨rfl,hi,e1⟩
 simp only[g0,g1]
 refine br (fun hlt=>?_) (fun hge=>?_)
 ·obtain⟨x,hx,-,ht⟩:=aQ (show i < l.length by omega)
  have h2:=yX x
  have h3:=pK yX (l.take i)
  have h4:=iP l i
  have h5:=bf (List.mem_of_getElem? hx)
  rw[List.length_take] at h3
  (repeat' first|refine vs ?_|((with_reducible refine ay jv ?_);refine aK (qD (by omega) ah) ?_)|((with_reducible refine aP ?_);((refine ix ?_);rintro _ _ _ _ _ ⟨_,rfl,_⟩ _))|fail)
  exact⟨by omega,by rw[nE _ ht],by omega,aA⟩
 ·(repeat' first|refine vs ?_|fail)
  refine pi ?_
  rw[show i=l.length by omega,List.take_length]
theorem aeH {h:AH} {l:List Span} {v:AV} {F:List Nat} (hs:l.length+szs l≤67108864) (r:aj h v l F):aO Tryz.prog C8 [v] h (.int .i64 (cO dM l)):=by
 refine reader (afK _) (by simp only[old]) ?_
 unfold PX
 have hsm:=r.small
 refine aT l.length (fun i vs h1=>vs=[.int .i64 (cO dM (l.take i)),.int .i64 (i:Int)]∧i≤l.length∧Ext h h1) ⟨rfl,Nat.zero_le _,aA⟩ ?_
 rintro i vs h1 _ ⟨rfl,hi,e1⟩
 simp only[g0,g1]
 refine vs ?_
 refine br (fun hlt=>?_) (fun hge=>?_)
 ·obtain⟨x,hx,-,ht⟩:=aQ (show i < l.length by omega)
  have h2:=yX x
  have h3:=pK yX (l.take i)
  have h4:=iP l i
  have h5:=bf (List.mem_of_getElem? hx)
  rw[List.length_take] at h3
  (repeat' first|refine vs ?_|((with_reducible refine ay jr ?_);refine aK (qC (by omega) ah) ?_)|((with_reducible refine aP ?_);((refine ix ?_);rintro _ _ _ _ _ ⟨_,rfl,_⟩ _))|fail)
  exact⟨by omega,by rw[nE _ ht],by omega,aA⟩
 ·(repeat' first|refine vs ?_|fail)
  refine pi ?_
  rw[show i=l.length by omega,List.take_length]
end Go.Proofs.YtekfdoknfcedpaaGreat
end
section
set_option linter.unusedSimpArgs false
set_option linter.unusedVariables false
namespace Go.Proofs.YtekfdoknfcedpaaGreat
open Go Go.Ab
section
def OX (x0 x1:AV):Prog:=.op (.box x0) fun a=>.op (.box x1) fun b=>Lg 0 a fun c=>Lg 0 b fun d=>Bn .eql c d fun c=>Gf c true 1 a fun d=>Gf c true 1 b fun e=>.gop c true (.bin 0 .eql d e) fun d=>Pk c d (.bool false) fun c=>Gf c true 2 a fun d=>Gf c true 2 b fun e=>.gop c true (.bin 0 .eql d e) fun d=>Pk c d (.bool false) fun c=>Gf c true 3 a fun d=>Gf c true 3 b fun e=>.gop c true (.bin 0 .eql d e) fun d=>Pk c d (.bool false) fun c=>Gf c true 4 a fun d=>Gf c true 4 b fun e=>.gop c true (.bin 2 .eql d e) fun d=>Pk c d (.bool false) fun c=>Gf c true 5 a fun a=>Gf c true 5 b fun b=>.gop c true (.call Bj [a,b]) fun a=>Pk c a (.bool false) fun a=>.fin [.val a]
theorem aeo (x0 x1:AV):CC Tryz.prog ny [x0,x1] (OX x0 x1):=cc Tryz.func274
def Ot (x0 x1:AV):Prog:=.op (.box x0) fun a=>.op (.box x1) fun b=>Lg 0 a fun c=>Lg 0 b fun d=>Bn .neq c d fun c=>Gf c false 1 a fun d=>Gf c false 1 b fun e=>.gop c false (.bin 0 .neq d e) fun d=>Pk c (.bool true) d fun c=>Gf c false 2 a fun d=>Gf c false 2 b fun e=>.gop c false (.bin 0 .neq d e) fun d=>Pk c (.bool true) d fun c=>Gf c false 3 a fun d=>Gf c false 3 b fun e=>.gop c false (.bin 0 .neq d e) fun d=>Pk c (.bool true) d fun c=>Gf c false 4 a fun d=>Gf c false 4 b fun e=>.gop c false (.bin 2 .neq d e) fun d=>Pk c (.bool true) d fun c=>Gf c false 5 a fun d=>.gop c false (.len 0 d) fun d=>Gf c false 5 b fun e=>.gop c false (.len 0 e) fun e=>.gop c false (.bin 0 .neq d e) fun d=>Pk c (.bool true) d fun c=>.ite c (.fin [.val (.bool false)]) (.loop [.int .i64 0] (fun c=>Lg 5 a fun d=>Ln 0 d fun d=>Bn .lss (g c 0) d fun d=>.ite d (Lg 5 a fun a=>Ix 4 a (g c 0) fun a=>Ld 4 a fun a=>Lg 5 b fun b=>Ix 4 b (g c 0) fun b=>Ld 4 b fun b=>.op (.eqs [1,2,0,1] true a b) fun a=>.ite a (.fin [.val (.bool false)]) (Bn .add (g c 0) (.int .i64 1) fun a=>.leaf 0 [a])) (.leaf 2 [g c 0])) fun a b=>ak a 1 (.leaf 1 b) (ak a 2 (.fin [.val (.bool true)]) .bad))
theorem adR (x0 x1:AV):CC Tryz.prog vG [x0,x1] (Ot x0 x1):=cc Tryz.func255 [2,3,5] (fun r=>if r=6 then[(0,[]),(1,[]),(2,[]),(3,[]),(4,[]),(5,[]),(6,[]),(7,[]),(8,[]),(9,[]),(10,[])] else[])
def MV (x0 x1:AV):Prog:=Ln 0 x0 fun a=>Ln 0 x1 fun b=>Bn .neq a b fun a=>.ite a (.fin [.val (.bool false)]) (Ln 0 x0 fun a=>.loop [.int .i64 0] (fun b=>Bn .lss (g b 0) a fun a=>.ite a (Ix 4 x0 (g b 0) fun a=>Ld 4 a fun a=>Ix 4 x1 (g b 0) fun c=>Ld 4 c fun c=>.op (.eqs [1,2,0,1] true a c) fun a=>.ite a (.fin [.val (.bool false)]) (Bn .add (g b 0) (.int .i64 1) fun a=>.leaf 0 [a])) (.leaf 2 [g b 0])) fun a b=>ak a 1 (.leaf 1 b) (ak a 2 (.fin [.val (.bool true)]) .bad))
theorem Z9 (x0 x1:AV):CC Tryz.prog Bj [x0,x1] (MV x0 x1):=cc Tryz.func320 [0,1,12,13] (fun r=>if r=6 then[(0,[]),(1,[]),(2,[]),(3,[]),(4,[]),(5,[]),(6,[]),(7,[]),(8,[])] else[])
end
theorem ajU (x y:Attr):oD [1,2,0,1] x.cs y.cs=some (bp (x=y)):=by
 have:oD [1,2,0,1] x.cs y.cs=some (decide (x.key=y.key) && ((x.num == y.num) && (decide (x.n=y.n) && (decide (x.text=y.text) && true)))):=rfl
 rw[this]
 congr 1
 refine LK ?_
 cases x;cases y
 simp[Attr.mk.injEq]
section
variable{P:Program} {h:AH} {Q:Nat→List AV→AH→Prop} {k:AV→Prog}
theorem VE {x y:Attr} (h1: ¬ x=y→(k (.bool true)).awp P h Q) (h2:x=y→(k (.bool false)).awp P h Q):(Prog.op (.eqs [1,2,0,1] true (.agg x.cs) (.agg y.cs)) k).awp P h Q:=by
 simp only[Prog.awp,AOp.go,ajU,if_true]
 by_cases e:x=y
 ·rw[lu e];exact h2 e
 ·rw[kI e];exact h1 e
end
theorem Z4 {h:AH} {xs ys:List Attr} {v0 v1:AV} {F G:List Nat} (r:aj h v0 xs F) (r':aj h v1 ys G):aO Tryz.prog Bj [v0,v1] h (.bool (bp (xs=ys))):=by
 refine reader (Z9 _ _) (by simp only[old]) ?_
 unfold MV
 have hsm:=r.small
 refine bC r (bC r' ?_)
 (repeat' first|refine vs ?_|(refine br ?_ ?_<;>first|exact bx|intro _)|fail)
 ·exact pf (by intro k;subst k;omega)
 ·refine aT xs.length (fun i vs h1=>vs=[.int .i64 (i:Int)]∧i≤xs.length∧h1=h∧uW xs ys i) ⟨rfl,Nat.zero_le _,rfl,eu0⟩ ?_
  rintro i vs h1 _ ⟨rfl,hi,rfl,hu⟩
  simp only[g0]
  refine br (fun hlt=>?_) (fun hge=>?_)
  ·obtain⟨x,hx,-,-⟩:=aQ (show i < xs.length by omega)
   obtain⟨y,hy,-,-⟩:=aQ (show i < ys.length by omega)
   refine vs ?_
   refine bX r hx rfl ?_
   rintro b o _ _ a ⟨rfl,rfl⟩ _
   refine vs ?_
   refine bX r' hy rfl ?_
   rintro b' o' _ _ a' ⟨rfl,rfl⟩ _
   refine vs ?_
   refine VE (fun e=>?_) (fun e=>?_)
   ·(repeat' first|refine vs ?_|fail)
    exact pf (LG hx hy e)
   ·(repeat' first|refine vs ?_|fail)
    exact⟨by omega,rfl,by omega,rfl,euS hu hx hy e⟩
  ·(repeat' first|refine vs ?_|fail)
   exact pt (LH (by rw[show i=xs.length by omega] at hu;exact hu) (by omega))
theorem Cj {h:AH} {a b:Span} {v v':AV} {F F':List Nat} (r:aj h v a.attrs F) (r':aj h v' b.attrs F'):aO Tryz.prog ny [.agg (a.cs v),.agg (b.cs v')] h (.bool (bp (a=b))):=by
 refine reader (aeo _ _) (by simp only[old]) ?_
 unfold OX
 (repeat' first|refine vs ?_|(refine br ?_ ?_<;>first|exact bx|intro _)|((with_reducible refine ay Bj ?_);(refine aU (Z4 ah ah) ?_ ?_<;>intro hn))|fail)
 all_goals first
  |(refine pf ?_;rintro rfl;contradiction)
  |(refine pt ?_;cases a;cases b;simp_all;done)
theorem Oj {h:AH} {a b:Span} {v v':AV} {F F':List Nat} (r:aj h v a.attrs F) (r':aj h v' b.attrs F'):aO Tryz.prog vG [.agg (a.cs v),.agg (b.cs v')] h (.bool (bp (a=b))):=by
 refine reader (adR _ _) (by simp only[old]) ?_
 unfold Ot
 have hsm:=r.small
 (repeat' first|refine vs ?_|(refine br ?_ ?_<;>first|exact bx|intro _)|fail)
 all_goals first
  |(refine pf ?_;rintro rfl;contradiction)
  |skip
 refine aT a.attrs.length (fun i vs h1=>vs=[.int .i64 (i:Int)]∧i≤a.attrs.length∧Ext ((h.push ⟨a.cs v,0,0⟩).push ⟨b.cs v',0,0⟩) h1∧uW a.attrs b.attrs i) ⟨rfl,Nat.zero_le _,aA,eu0⟩ ?_
 rintro i vs h1 _ ⟨rfl,hi,e1,hu⟩
 simp only[g0]
 refine vs ?_
 refine br (fun hlt=>?_) (fun hge=>?_)
 ·obtain⟨x,hx,-,-⟩:=aQ (show i < a.attrs.length by omega)
  obtain⟨y,hy,-,-⟩:=aQ (show i < b.attrs.length by omega)
  (repeat' first|refine vs ?_|((with_reducible refine aP ?_);((refine ix ?_);rintro _ _ _ _ _ ⟨rfl,rfl⟩ _))|fail)
  refine VE (fun e=>?_) (fun e=>?_)
  ·(repeat' first|refine vs ?_|fail)
   refine pf ?_
   rintro rfl
   exact LG hx hy e rfl
  ·(repeat' first|refine vs ?_|fail)
   exact⟨by omega,rfl,by omega,aA,euS hu hx hy e⟩
 ·(repeat' first|refine vs ?_|fail)
  have e:a.attrs=b.attrs:=LH (by rw[show i=a.attrs.length by omega] at hu;exact hu) (by omega)
  refine pt ?_
  cases a;cases b;simp_all
end Go.Proofs.YtekfdoknfcedpaaGreat
end
section
set_option linter.unusedSimpArgs false
set_option linter.unusedVariables false
set_option maxHeartbeats 1000000
namespace Go.Proofs.YtekfdoknfcedpaaGreat
open Go Go.Ab
section
def R7 (x0:AV):Prog:=.op (.box x0) fun a=>.op (.alloc kN) fun b=>.op (.alloc kN) fun c=>Lg 0 a fun d=>Sg 0 c d fun _=>Lg 1 a fun d=>Sg 1 c d fun _=>Lg 2 a fun d=>Sg 2 c d fun _=>Lg 3 a fun d=>Sg 3 c d fun _=>Lg 4 a fun a=>Cl yQ [a] fun a=>Sg 4 c a fun _=>Ld 5 c fun a=>.op (.st 5 b a) fun _=>.fin [.cn 5 b]
theorem aip (x0:AV):CC Tryz.prog tC [x0] (R7 x0):=cc Tryz.func111
def R9 (x0 x1:AV):Prog:=.op (.box x0) fun a=>.op (.box x1) fun b=>Lg 0 a fun c=>Lg 0 b fun d=>Bn .neq c d fun c=>.ite c (.fin [.val (.bool false)]) (Lg 1 a fun c=>Lg 1 b fun d=>Bn .neq c d fun c=>.ite c (.fin [.val (.bool false)]) (Lg 2 a fun c=>Lg 2 b fun d=>.op (.bin 1 .neq c d) fun c=>.ite c (.fin [.val (.bool false)]) (Lg 3 a fun c=>Lg 3 b fun d=>.op (.bin 1 .neq c d) fun c=>.ite c (.fin [.val (.bool false)]) (Lg 4 a fun a=>Lg 4 b fun b=>Cl yS [a,b] fun a=>.op (.una .not a) fun a=>.ite a (.fin [.val (.bool false)]) (.fin [.val (.bool true)])))))
theorem air (x0 x1:AV):CC Tryz.prog wm [x0,x1] (R9 x0 x1):=cc Tryz.func135
def R8 (x0 x1:AV):Prog:=.op (.box x0) fun a=>Lg 2 a fun b=>Ln 1 b fun b=>Bn .sub x1 b fun b=>Bn .lss b (.int .i64 0) fun c=>.ite c (.fin [.val (.int .i64 (-1))]) (Lg 3 a fun c=>Ln 1 c fun c=>Bn .sub b c fun b=>Bn .lss b (.int .i64 0) fun c=>.ite c (.fin [.val (.int .i64 (-1))]) (Lg 4 a fun a=>Cl yR [a,b] fun a=>Bn .lss a (.int .i64 0) fun b=>.ite b (.fin [.val (.int .i64 (-1))]) (.fin [.val a])))
theorem aiq (x0 x1:AV):CC Tryz.prog wh [x0,x1] (R8 x0 x1):=cc Tryz.func85
def ag6 (x0:AV):Prog:=Ln 0 x0 fun a=>.op (.gy 5 72 kN a a) fun a=>.loop [.int .i64 0] (fun b=>Ln 0 x0 fun c=>Bn .lss (g b 0) c fun c=>.ite c (Ix 5 x0 (g b 0) fun c=>Ld 5 c fun c=>Cl tC [c] fun c=>Ix 5 a (g b 0) fun a=>.op (.st 5 a c) fun _=>Bn .add (g b 0) (.int .i64 1) fun a=>.leaf 0 [a]) (.leaf 2 [g b 0])) fun b c=>ak b 1 (.leaf 1 c) (ak b 2 (.fin [.val a]) .bad)
theorem ahw (x0:AV):CC Tryz.prog yQ [x0] (ag6 x0):=cc Tryz.func190 [0,3,4] (fun _=>[])
def ag8 (x0 x1:AV):Prog:=Ln 0 x0 fun a=>Ln 0 x1 fun b=>Bn .neq a b fun a=>.ite a (.fin [.val (.bool false)]) (.loop [.int .i64 0] (fun a=>Ln 0 x0 fun b=>Bn .lss (g a 0) b fun b=>.ite b (Ix 5 x0 (g a 0) fun b=>Ld 5 b fun b=>Ix 5 x1 (g a 0) fun c=>Ld 5 c fun c=>Cl wm [b,c] fun b=>.op (.una .not b) fun b=>.ite b (.fin [.val (.bool false)]) (Bn .add (g a 0) (.int .i64 1) fun a=>.leaf 0 [a])) (.leaf 2 [g a 0])) fun a b=>ak a 1 (.leaf 1 b) (ak a 2 (.fin [.val (.bool true)]) .bad))
theorem ahK (x0 x1:AV):CC Tryz.prog yS [x0,x1] (ag8 x0 x1):=cc Tryz.func224 [0,1,5] (fun r=>if r=6 then[(0,[]),(1,[]),(2,[]),(3,[]),(4,[]),(5,[]),(6,[]),(7,[]),(8,[]),(9,[])] else[])
def ag7 (x0 x1:AV):Prog:=Ln 0 x0 fun a=>Bn .sub x1 a fun a=>Bn .lss a (.int .i64 0) fun b=>.ite b (.fin [.val (.int .i64 (-1))]) (.loop [a,.int .i64 0] (fun a=>Ln 0 x0 fun b=>Bn .lss (g a 1) b fun b=>.ite b (Ix 5 x0 (g a 1) fun b=>Ld 5 b fun b=>Cl wh [b,g a 0] fun b=>Bn .lss b (.int .i64 0) fun c=>.ite c (.fin [.val (.int .i64 (-1))]) (Bn .add (g a 1) (.int .i64 1) fun a=>.leaf 0 [b,a])) (.leaf 2 [g a 0,g a 1])) fun a b=>ak a 1 (.leaf 1 b) (ak a 2 (.fin [.val (g b 0)]) .bad))
theorem ahD (x0 x1:AV):CC Tryz.prog yR [x0,x1] (ag7 x0 x1):=cc Tryz.func167 [0,1,5] (fun _=>[])
end
theorem alK {x y:Pol} (h:y∈x.l):SizeOf.sizeOf y < SizeOf.sizeOf x:=by
 cases x with
 |mk k n s t l=>
  have:=List.sizeOf_lt_of_mem (show y∈l from h)
  simp only[Pol.mk.sizeOf_spec];omega
theorem lQ {p:Pol→Prop} (step:∀ x,(∀ y∈x.l,p y)→p x):∀ x,p x:=fun x=>
 step x fun y hy=>lQ step y
termination_by x=>SizeOf.sizeOf x
decreasing_by exact alK hy
theorem toPols {xs:List Pol} (hc:∀ x∈xs,dJ Pol Tryz.prog tC x) (hs:xs.length+szs xs≤1048576):fI Tryz.prog yQ xs:=by
 intro v F h r
 refine ahw _ (toSx_spec rfl rfl rfl hc r ?_)
 omega
theorem RQ (x:Pol):Sz.sz x≤1048576→dJ Pol Tryz.prog tC x:=by
 refine lQ (p:=fun x=>Sz.sz x≤1048576→dJ Pol Tryz.prog tC x) ?_ x
 intro x ih hs cs F h r
 rw[Pol.qd] at hs
 rw[Pol.dB] at r
 obtain⟨v0,rfl,r0⟩:=r
 have hc:=toPols (xs:=x.l) (fun y hy=>ih y hy (by have:=bf hy;omega)) (by omega)
 refine aip _ ?_
 unfold R7
 have QF:=hc
 (repeat' first|refine vs ?_|((with_reducible refine ay yQ ?_);(refine aG (QF _ _ _ ah) ?_;rintro _ _ ⟨e_,_,_,_⟩;have n_:=e_.1;(try simp only[aD,aN] at n_)))|fail)
 exact⟨rfl,_,rfl,aA,_,_,rfl,Pol.dB.2 ⟨_,rfl,ah⟩,aZ⟩
theorem QF (xs:List Pol) (hs:xs.length+szs xs≤1048576):fI Tryz.prog yQ xs:=toPols (fun x hx=>RQ x (by have:=bf hx;omega)) hs
theorem VZ {xs:List Pol} (hc:∀ x∈xs,EqX Pol Tryz.prog wm x) (v v':AV) (F F':List Nat) (h:AH) (r:aj h v xs F) (r':aj h v' xs F'):aO Tryz.prog yS [v,v'] h (.bool true):=
 reader (ahK _ _) (by simp only[old]) (TN rfl hc r r')
theorem RU:EqC Pol Tryz.prog wm:=by
 refine lQ ?_
 intro x ih cs cs' F F' h r r'
 rw[Pol.dB] at r r'
 obtain⟨v0,rfl,r0⟩:=r
 obtain⟨u0,rfl,q0⟩:=r'
 have QH:=VZ ih
 refine reader (air _ _) (by simp only[old]) ?_
 unfold R9
 (repeat' first|refine vs ?_|((with_reducible refine ay yS ?_);refine aK (QH _ _ _ _ _ ah ah) ?_)|fail)
 exact pb rfl
theorem QH:EqS Pol Tryz.prog yS:=fun xs v v' F F' h r r'=>VZ (fun x _=>RU x) v v' F F' h r r'
theorem VJ {xs:List Pol} (hc:∀ x∈xs,SzX Pol Tryz.prog wh x) (ok:∀ x∈xs,Cel.ok x) (v:AV) (F:List Nat) (b:Int) (h:AH) (r:aj h v xs F) (h0:0≤b) (h1:b≤1048576):aO Tryz.prog yR [v,.int .i64 b] h (.int .i64 (szr b (xs.length+szs xs))):=
 reader (ahD _ _) (by simp only[old]) (TB rfl hc ok r h0 h1)
theorem RS:SzC Pol Tryz.prog wh:=by
 refine lQ ?_
 intro x ih ok cs F b h r h0 h1
 have hS:=Pol.qd x
 rw[Pol.dB] at r
 obtain⟨v0,rfl,r0⟩:=r
 have okl:∀ y∈x.l,Cel.ok y:=by
  cases x with
  |mk k n s t l=>exact Pol.EX.1 ok.2.2.2.2
 have ok1:x.key.size≤9223372036854775807:=by cases x with
  |mk k n s t l=>exact ok.2.2.1
 have ok2:x.text.size≤9223372036854775807:=by cases x with
  |mk k n s t l=>exact ok.2.2.2.1
 have QG:=VJ ih okl
 refine reader (aiq _ _) (by simp only[old]) ?_
 unfold R8
 (repeat' first|refine vs ?_|(refine br ?_ ?_<;>first|exact bo|intro _)|((with_reducible refine ay yR ?_);(refine ig (QG _ _ _ _ ah aL aL) (fun _=>?_) (fun _=>?_)))|fail)
 all_goals(refine pi ?_;unfold szr;split<;>omega)
theorem QG:SzL Pol Tryz.prog yR:=fun xs ok v F b h r h0 h1=>VJ (fun x _=>RS x) ok v F b h r h0 h1
end Go.Proofs.YtekfdoknfcedpaaGreat
end
section
set_option linter.unusedSimpArgs false
set_option linter.unusedVariables false
namespace Go.Proofs.YtekfdoknfcedpaaGreat
open Go Go.Ab
section
def Qw (x0:AV):Prog:=.op (.box x0) fun a=>Lg 3 a fun a=>Cl Dz [a] fun a=>.fin [.val a]
theorem agx (x0:AV):CC Tryz.prog vT [x0] (Qw x0):=cc Tryz.func222
def P5 (x0:AV):Prog:=.op (.box x0) fun a=>Lg 3 a fun a=>Cl C8 [a] fun a=>.fin [.val a]
theorem afN (x0:AV):CC Tryz.prog vM [x0] (P5 x0):=cc Tryz.func176
def Qs (x0 x1:AV):Prog:=.op (.box x1) fun a=>.op (.mP Iw [a]) fun a=>Cl yA [x0,a] fun a=>.fin [.val a]
theorem agt (x0 x1:AV):CC Tryz.prog nC [x0,x1] (Qs x0 x1):=cc Tryz.func213
def PV (x0 x1:AV):Prog:=.loop [.int .i64 0] (fun a=>Ln 0 x0 fun b=>Bn .lss (g a 0) b fun b=>.ite b (Ix 4 x0 (g a 0) fun b=>Lg 0 b fun b=>Bn .eql b x1 fun b=>.ite b (.fin [.val (g a 0)]) (Bn .add (g a 0) (.int .i64 1) fun a=>.leaf 0 [a])) (.leaf 2 [g a 0])) fun a b=>ak a 1 (.leaf 1 b) (ak a 2 (.fin [.val (.int .i64 (-1))]) .bad)
theorem afJ (x0 x1:AV):CC Tryz.prog vJ [x0,x1] (PV x0 x1):=cc Tryz.func256 [0,1,5] (fun _=>[])
def Ob (x0 x1:AV):Prog:=.op (.box x0) fun a=>Lg 0 a fun a=>.op (.ld1 x1) fun b=>Bn .eql a b fun a=>.fin [.val a]
theorem acZ (x0 x1:AV):CC Tryz.prog Iw [x0,x1] (Ob x0 x1):=cc Tryz.func279
def ZE (x0 x1:AV):Prog:=Ln 0 x0 fun a=>.loop [.int .i64 0] (fun b=>Bn .lss (g b 0) a fun a=>.ite a (Ix 4 x0 (g b 0) fun a=>Ld 4 a fun a=>.op (.iV x1 [a]) fun a=>.ite a (.fin [.val (g b 0)]) (Bn .add (g b 0) (.int .i64 1) fun a=>.leaf 0 [a])) (.leaf 2 [g b 0])) fun a b=>ak a 1 (.leaf 1 b) (ak a 2 (.fin [.val (.int .i64 (-1))]) .bad)
theorem ZG (x0 x1:AV):CC Tryz.prog yA [x0,x1] (ZE x0 x1):=cc Tryz.func278 [0,1,7,8] (fun _=>[])
def RD (x0:AV):Prog:=.op (.box x0) fun a=>Lg 0 a fun b=>Bn .geq b (.int .i64 1) fun b=>.gop b true (.fad 1 a) fun a=>.gop b true (.ldn 6 a) fun a=>.gop b true (.call qG [a]) fun a=>Pk b a (.bool false) fun a=>.fin [.val a]
theorem ahW (x0:AV):CC Tryz.prog vY [x0] (RD x0):=cc Tryz.func272
def Q0 (x0:AV):Prog:=.op (.box x0) fun a=>Lg 0 a fun b=>Bn .geq b (.int .i64 1) fun b=>.gop b true (.fad 1 a) fun a=>.gop b true (.ldn 6 a) fun a=>.gop b true (.call qE [a]) fun a=>Pk b a (.bool false) fun a=>.fin [.val a]
theorem ahp (x0:AV):CC Tryz.prog qF [x0] (Q0 x0):=cc Tryz.func104
def OY (x0 x1:AV):Prog:=.op (.box x0) fun a=>.op (.box x1) fun b=>Lg 0 a fun c=>Lg 0 b fun d=>Bn .eql c d fun c=>.gop c true (.fad 1 a) fun a=>.gop c true (.ldn 6 a) fun a=>.gop c true (.fad 1 b) fun b=>.gop c true (.ldn 6 b) fun b=>.gop c true (.call ny [a,b]) fun a=>Pk c a (.bool false) fun a=>.fin [.val a]
theorem aep (x0 x1:AV):CC Tryz.prog CB [x0,x1] (OY x0 x1):=cc Tryz.func319
end
theorem Pp {h:AH} {t:Trail} {v:AV} {F:List Nat} (hs:Sz.sz t≤67108864) (r:aj h v t.spans F):aO Tryz.prog vT [.agg (t.cs v)] h (.int .i64 (cO dM t.spans)):=by
 refine reader (agx _) (by simp only[old]) ?_
 unfold Qw
 (repeat' first|refine vs ?_|((with_reducible refine ay Dz ?_);refine aK (afa hs ah) ?_)|fail)
 exact pi rfl
theorem Pf {h:AH} {t:Trail} {v:AV} {F:List Nat} (hs:Sz.sz t≤67108864) (r:aj h v t.spans F):aO Tryz.prog vM [.agg (t.cs v)] h (.int .i64 (cO dM t.spans)):=by
 refine reader (afN _) (by simp only[old]) ?_
 unfold P5
 (repeat' first|refine vs ?_|((with_reducible refine ay C8 ?_);refine aK (aeH hs ah) ?_)|fail)
 exact pi rfl
def isId (k:Int) (t:Trail):Bool:=decide (t.id=k)
theorem aiC {h:AH} {b:Nat} {k:Int} (a:At h b 0 [.int .i64 k]):Looks Trail Tryz.prog h Iw [.ptr b 0] (isId k):=by
 rintro x cs F ⟨v,rfl,r⟩
 refine reader (acZ _ _) (by simp only[old]) ?_
 unfold Ob
 (repeat' first|refine vs ?_|(refine br ?_ ?_<;>first|exact bx|intro _)|fail)
 all_goals(refine pb ?_;simp[isId, *])
theorem MO {h:AH} {xs:List Trail} {x0:AV} {F:List Nat} {f:FuncId} {caps:List AV} {p:Trail→Bool} (r:aj h x0 xs F) (hf:Looks Trail Tryz.prog h f caps p):
  aO Tryz.prog yA [x0,.fn f caps] h (.int .i64 (idx p xs)):=
 reader (ZG _ _) (by simp only[old]) (Kt (w:=4) rfl r hf)
theorem yN {h:AH} {xs:List Trail} {x0:AV} {F:List Nat} {k:Int} (r:aj h x0 xs F):aO Tryz.prog nC [x0,.int .i64 k] h (.int .i64 (idx (isId k) xs)):=by
 refine reader (agt _ _) (by simp only[old]) ?_
 unfold Qs
 (repeat' first|refine vs ?_|((with_reducible refine ay yA ?_);refine aK (MO ah (aiC jC)) ?_)|fail)
 exact pi rfl
theorem Ja {h:AH} {xs:List Trail} {x0:AV} {F:List Nat} {k:Int} (r:aj h x0 xs F):aO Tryz.prog vJ [x0,.int .i64 k] h (.int .i64 (idx (isId k) xs)):=by
 refine reader (afJ _ _) (by simp only[old]) ?_
 unfold PV
 have hsm:=r.small
 refine aT xs.length (fun i vs h1=>vs=[.int .i64 (i:Int)]∧i≤xs.length∧h1=h∧bZ xs (fun _ t=>isId k t=false) i) ⟨rfl,Nat.zero_le _,rfl,up0⟩ ?_
 rintro i vs h1 _ ⟨rfl,hi,rfl,hu⟩
 simp only[g0]
 refine vs ?_
 refine br (fun hlt=>?_) (fun hge=>?_)
 ·obtain⟨x,hx,-,-⟩:=aQ (show i < xs.length by omega)
  (repeat' first|refine vs ?_|(refine br ?_ ?_<;>first|exact bx|intro _)|((with_reducible refine aP ?_);((refine ix ?_);rintro _ _ _ _ _ ⟨_,rfl,_⟩ _))|fail)
  ·rename_i he
   exact pi (uy hx (by simp[isId,he]) fun j y hj hy=>hu j y hj hy).symm
  ·rename_i he
   exact⟨by omega,rfl,by omega,rfl,upS hu hx (by simp[isId,he])⟩
 ·(repeat' first|refine vs ?_|fail)
  exact pi (Aa fun j y hj hy=>hu j y (by omega) hy).symm
def ku (x:Itm):Prop:=1≤x.stamp∧pO x.s
theorem QJ {h:AH} {x:Itm} {v:AV} {F:List Nat} (ok:Cel.ok x.s) (hs:Sz.sz x≤67108864) (r:aj h v x.s.attrs F):aO Tryz.prog vY [.agg (x.cs v)] h (.bool (bp (ku x))):=by
 refine reader (ahW _) (by simp only[old]) ?_
 unfold RD
 (repeat' first|refine vs ?_|(refine br ?_ ?_<;>first|exact bx|intro _)|((with_reducible refine ay qG ?_);(refine aU (Jv ok hs ah) ?_ ?_<;>intro hn))|fail)
 all_goals first
  |exact pt ⟨by omega,by assumption⟩
  |exact pf fun k=>by obtain⟨a1,a2⟩:=k;first|omega|contradiction
theorem Ju {h:AH} {x:Itm} {v:AV} {F:List Nat} (ok:Cel.ok x.s) (hs:Sz.sz x≤67108864) (r:aj h v x.s.attrs F):aO Tryz.prog qF [.agg (x.cs v)] h (.bool (bp (ku x))):=by
 refine reader (ahp _) (by simp only[old]) ?_
 unfold Q0
 (repeat' first|refine vs ?_|(refine br ?_ ?_<;>first|exact bx|intro _)|((with_reducible refine ay qE ?_);(refine aU (Jt ok hs ah) ?_ ?_<;>intro hn))|fail)
 all_goals first
  |exact pt ⟨by omega,by assumption⟩
  |exact pf fun k=>by obtain⟨a1,a2⟩:=k;first|omega|contradiction
theorem adz {h:AH} {a b:Itm} {v v':AV} {F F':List Nat} (r:aj h v a.s.attrs F) (r':aj h v' b.s.attrs F'):aO Tryz.prog CB [.agg (a.cs v),.agg (b.cs v')] h (.bool (bp (a=b))):=by
 refine reader (aep _ _) (by simp only[old]) ?_
 unfold OY
 (repeat' first|refine vs ?_|(refine br ?_ ?_<;>first|exact bx|intro _)|((with_reducible refine ay ny ?_);(refine aU (Cj (a:=a.s) (b:=b.s) ah ah) ?_ ?_<;>intro hn))|fail)
 all_goals first
  |(refine pf ?_;rintro rfl;contradiction)
  |(refine pt ?_;cases a;cases b;simp_all;done)
end Go.Proofs.YtekfdoknfcedpaaGreat
end
section
set_option linter.unusedSimpArgs false
set_option linter.unusedVariables false
set_option maxHeartbeats 1000000
namespace Go.Proofs.YtekfdoknfcedpaaGreat
open Go Go.Ab
section
def RF (x0:AV):Prog:=.op (.box x0) fun a=>Lg 0 a fun b=>Cl bA [b,.int .i64 1,.int .i64 4] fun b=>.op (.una .not b) fun b=>Gf b false 17 a fun c=>.gop b false (.bin 0 .lss c (.int .i64 0)) fun c=>Pk b (.bool true) c fun b=>Gf b false 13 a fun c=>Gf b false 14 a fun d=>Gf b false 15 a fun e=>Gf b false 16 a fun f=>.gop b false (.mnx true [c,d,e,f]) fun c=>.gop b false (.bin 0 .lss c (.int .i64 0)) fun c=>Pk b (.bool true) c fun b=>.ite b (.fin [.val (.bool false)]) (Lg 0 a fun b=>Bn .eql b (.int .i64 1) fun b=>Gf b true 18 a fun c=>.gop b true (.bin 0 .neq c (.int .i64 (-1))) fun c=>Pk b c (.bool false) fun b=>.scope (.ite b (Lg 10 a fun a=>Cl bA [a,.int .i64 1,.int .i64 5] fun a=>.op (.una .not a) fun a=>.ite a (.fin [.val (.bool false)]) (.leaf 0 [])) (Lg 10 a fun a=>Bn .neq a (.int .i64 0) fun a=>.ite a (.fin [.val (.bool false)]) (.leaf 0 []))) (fun _=>Lg 18 a fun b=>.op (.bin 0 .eql b (.int .i64 (-1))) fun b=>Gf b false 18 a fun c=>Gf b false 17 a fun d=>.gop b false (.bin 0 .geq c d) fun c=>Pk b (.bool true) c fun b=>Gf b true 19 a fun c=>.gop b true (.bin 0 .eql c (.int .i64 (-1))) fun c=>.gop b true (.mv c) fun c=>Gf c false 18 a fun d=>.gop c false (.bin 0 .neq d (.int .i64 (-1))) fun d=>.gop c false (.mv d) fun d=>Gf d true 19 a fun e=>Gf d true 18 a fun a=>.gop d true (.bin 0 .geq e a) fun a=>.gop c false (.pick d a (.bool false)) fun a=>.gop b true (.pick c (.bool true) a) fun a=>Pk b a (.bool false) fun a=>.fin [.val a]) fun a b=>ak a 1 (.leaf 1 b) .bad)
theorem ahX (x0:AV):CC Tryz.prog Ea [x0] (RF x0):=cc Tryz.func203 [1] (fun _=>[])
def Q5 (x0:AV):Prog:=.op (.box x0) fun a=>Lg 0 a fun b=>Cl bI [b,.int .i64 1,.int .i64 4] fun b=>.op (.una .not b) fun b=>Gf b false 17 a fun c=>.gop b false (.bin 0 .lss c (.int .i64 0)) fun c=>Pk b (.bool true) c fun b=>Gf b false 13 a fun c=>.gop b false (.bin 0 .lss c (.int .i64 0)) fun c=>Pk b (.bool true) c fun b=>Gf b false 14 a fun c=>.gop b false (.bin 0 .lss c (.int .i64 0)) fun c=>Pk b (.bool true) c fun b=>Gf b false 15 a fun c=>.gop b false (.bin 0 .lss c (.int .i64 0)) fun c=>Pk b (.bool true) c fun b=>Gf b false 16 a fun c=>.gop b false (.bin 0 .lss c (.int .i64 0)) fun c=>Pk b (.bool true) c fun b=>.ite b (.fin [.val (.bool false)]) (Lg 18 a fun b=>.op (.bin 0 .neq b (.int .i64 (-1))) fun b=>Gf b true 18 a fun c=>Gf b true 17 a fun d=>.gop b true (.bin 0 .lss c d) fun c=>Pk b c (.bool false) fun b=>Gf b false 19 a fun c=>.gop b false (.bin 0 .neq c (.int .i64 (-1))) fun c=>.gop b false (.mv c) fun c=>Gf c true 18 a fun d=>.gop c true (.bin 0 .eql d (.int .i64 (-1))) fun d=>.gop c true (.mv d) fun d=>Gf d false 19 a fun e=>Gf d false 18 a fun f=>.gop d false (.bin 0 .lss e f) fun e=>.gop c true (.pick d (.bool true) e) fun d=>.gop b false (.pick c d (.bool false)) fun c=>Pk b (.bool true) c fun b=>.ite b (.fin [.val (.bool false)]) (Lg 0 a fun b=>Bn .eql b (.int .i64 1) fun b=>Gf b true 18 a fun c=>.gop b true (.bin 0 .neq c (.int .i64 (-1))) fun c=>Pk b c (.bool false) fun b=>.ite b (Lg 10 a fun a=>Cl bI [a,.int .i64 1,.int .i64 5] fun a=>.fin [.val a]) (Lg 10 a fun a=>Bn .eql a (.int .i64 0) fun a=>.fin [.val a])))
theorem ahq (x0:AV):CC Tryz.prog DX [x0] (Q5 x0):=cc Tryz.func105
def Oe (x0:AV):Prog:=.op (.box x0) fun a=>Lg 0 a fun b=>Bn .eql b (.int .i64 2) fun b=>Gf b true 1 a fun a=>.gop b true (.bin 0 .eql a (.int .i64 2)) fun a=>Pk b a (.bool false) fun a=>.fin [.val a]
theorem ac2 (x0:AV):CC Tryz.prog yL [x0] (Oe x0):=cc Tryz.func207
def NA (x0:AV):Prog:=.op (.box x0) fun a=>Lg 0 a fun b=>Bn .eql b (.int .i64 2) fun b=>Gf b true 1 a fun a=>.gop b true (.bin 0 .eql a (.int .i64 2)) fun a=>Pk b a (.bool false) fun a=>.fin [.val a]
theorem acf (x0:AV):CC Tryz.prog yD [x0] (NA x0):=cc Tryz.func183
def O4 (x0 x1:AV):Prog:=.op (.box x0) fun a=>Lg 1 a fun a=>Cl Er [x1,a] fun a=>.fin [.val a]
theorem aeu (x0 x1:AV):CC Tryz.prog CF [x0,x1] (O4 x0 x1):=cc Tryz.func241
def Ox (x0 x1:AV):Prog:=.op (.box x0) fun a=>Lg 1 a fun a=>Cl Eo [x1,a] fun a=>.fin [.val a]
theorem adV (x0 x1:AV):CC Tryz.prog Cn [x0,x1] (Ox x0 x1):=cc Tryz.func234
end
def mH (d:bV):Prop:=(1≤d.op∧d.op≤4)∧0≤d.inv∧0≤d.took∧0≤d.n∧0≤d.forgot∧0≤d.now∧((d.op=1∧d.lin≠-1∧1≤d.code∧d.code≤5)∨(¬ (d.op=1∧d.lin≠-1)∧d.code=0))∧(d.lin= -1∨d.inv≤d.lin)∧(d.res= -1∨(d.lin≠-1∧d.lin≤d.res))
theorem alA {P:Program} {h:AH} {Q:Nat→List AV→AH→Prop} {k:AV→Prog} {a b c d:Int} (hk:(k (.int .i64 (min (min (min a b) c) d))).awp P h Q):(Prog.op (.mnx true [.int .i64 a,.int .i64 b,.int .i64 c,.int .i64 d]) k).awp P h Q:=by
 simp only[Prog.awp,AOp.go,su,nP,if_true]
 have e:∀ x y:Int,(if y < x then y else x)=min x y:=fun x y=>by split<;>omega
 simp only[e]
 exact hk
theorem ag0 {h:AH} {d:bV} {v:AV}:aO Tryz.prog Ea [.agg (d.cs v)] h (.bool (bp (mH d))):=by
 refine reader (ahX _) (by simp only[old]) ?_
 unfold RF
 (repeat' first|refine vs ?_|(refine br ?_ ?_<;>first|exact bx|intro _)|((with_reducible refine ay bA ?_);(refine cZ gF ?_ ?_<;>intro hb<;>first|replace hb:=dD hb|replace hb:=dH hb))|fail)
 all_goals first
  |(refine pf ?_;unfold mH;omega)
  |skip
 refine alA ?_
 (repeat' first|refine vs ?_|(refine br ?_ ?_<;>first|exact bo|intro _)|((with_reducible refine ay bA ?_);(refine cZ gF ?_ ?_<;>intro hb<;>first|replace hb:=dD hb|replace hb:=dH hb))|fail)
 all_goals first
  |(refine pt ?_;unfold mH;omega)
  |(refine pf ?_;unfold mH;omega)
theorem agF {h:AH} {d:bV} {v:AV}:aO Tryz.prog DX [.agg (d.cs v)] h (.bool (bp (mH d))):=by
 refine reader (ahq _) (by simp only[old]) ?_
 unfold Q5
 (repeat' first|refine vs ?_|(refine br ?_ ?_<;>first|exact bo|intro _)|((with_reducible refine ay bI ?_);(refine cZ iw ?_ ?_<;>intro hb<;>first|replace hb:=dD hb|replace hb:=dH hb))|fail)
 all_goals first
  |(refine pt ?_;unfold mH;omega)
  |(refine pf ?_;unfold mH;omega)
theorem Nr {h:AH} {t:Task} {v v':AV}:aO Tryz.prog yL [.agg (t.cs v v')] h (.bool (bp (t.op=2∧t.pc=2))):=by
 refine reader (ac2 _) (by simp only[old]) ?_
 unfold Oe
 (repeat' first|refine vs ?_|(refine br ?_ ?_<;>first|exact bx|intro _)|fail)
 all_goals first
  |exact pt ⟨by omega,by omega⟩
  |exact pf fun k=>by obtain⟨a1,a2⟩:=k;omega
theorem Nh {h:AH} {t:Task} {v v':AV}:aO Tryz.prog yD [.agg (t.cs v v')] h (.bool (bp (t.op=2∧t.pc=2))):=by
 refine reader (acf _) (by simp only[old]) ?_
 unfold NA
 (repeat' first|refine vs ?_|(refine br ?_ ?_<;>first|exact bx|intro _)|fail)
 all_goals first
  |exact pt ⟨by omega,by omega⟩
  |exact pf fun k=>by obtain⟨a1,a2⟩:=k;omega
theorem adC {h:AH} {c:gD} {v:AV} {a:Int}:aO Tryz.prog CF [.agg (c.cs v),.int .i64 a] h (.int .i64 (gV a c.wait)):=by
 refine reader (aeu _ _) (by simp only[old]) ?_
 unfold O4
 (repeat' first|refine vs ?_|((with_reducible refine ay Er ?_);refine aK aiX ?_)|fail)
 exact pi rfl
theorem adb {h:AH} {c:gD} {v:AV} {a:Int}:aO Tryz.prog Cn [.agg (c.cs v),.int .i64 a] h (.int .i64 (gV a c.wait)):=by
 refine reader (adV _ _) (by simp only[old]) ?_
 unfold Ox
 (repeat' first|refine vs ?_|((with_reducible refine ay Eo ?_);refine aK aiS ?_)|fail)
 exact pi rfl
end Go.Proofs.YtekfdoknfcedpaaGreat
end
section
set_option linter.unusedSimpArgs false
set_option linter.unusedVariables false
set_option maxHeartbeats 1000000
namespace Go.Proofs.YtekfdoknfcedpaaGreat
open Go Go.Ab
section
end
end Go.Proofs.YtekfdoknfcedpaaGreat
end
section
set_option linter.unusedSimpArgs false
set_option linter.unusedVariables false
set_option maxHeartbeats 1000000
namespace Go.Proofs.YtekfdoknfcedpaaGreat
open Go Go.Ab
section
def Tg (x0:AV):Prog:=Bn .and x0 (.int .i64 65535) fun a=>Bn .shl a (.int .u64 7) fun b=>Bn .and b (.int .i64 65535) fun b=>Bn .xor a b fun a=>Bn .shr a (.int .u64 9) fun b=>Bn .xor a b fun a=>Bn .shl a (.int .u64 8) fun b=>Bn .and b (.int .i64 65535) fun b=>Bn .xor a b fun a=>.fin [.val a]
theorem ajn (x0:AV):CC Tryz.prog Ep [x0] (Tg x0):=cc Tryz.func212
def Ta (x0:AV):Prog:=Bn .and x0 (.int .i64 65535) fun a=>Bn .shl a (.int .u64 7) fun b=>Bn .xor a b fun a=>Bn .and a (.int .i64 65535) fun a=>Bn .shr a (.int .u64 9) fun b=>Bn .xor a b fun a=>Bn .shl a (.int .u64 8) fun b=>Bn .xor a b fun a=>Bn .and a (.int .i64 65535) fun a=>.fin [.val a]
theorem aji (x0:AV):CC Tryz.prog En [x0] (Ta x0):=cc Tryz.func184
def OW (x0 x1:AV):Prog:=Bn .lss x1 (.int .i64 1) fun a=>.ite a (.fin [.val (.int .i64 0)]) (Cl Ep [x0] fun a=>Bn .rem a x1 fun a=>.fin [.val a])
theorem aen (x0 x1:AV):CC Tryz.prog iY [x0,x1] (OW x0 x1):=cc Tryz.func127
def Oq (x0 x1:AV):Prog:=Bn .lss x1 (.int .i64 1) fun a=>.ite a (.fin [.val (.int .i64 0)]) (Cl En [x0] fun a=>Bn .rem a x1 fun a=>.fin [.val a])
theorem adQ (x0 x1:AV):CC Tryz.prog eU [x0,x1] (Oq x0 x1):=cc Tryz.func108
def M7 (x0 x1:AV):Prog:=.op (.box x0) fun a=>Bn .lss x1 (.int .i64 1) fun b=>.ite b (.fin [.val (.int .i64 (-1))]) (Lg 0 a fun b=>Bn .eql b (.int .i64 1) fun b=>Gf b true 1 a fun c=>.gop b true (.bin 0 .eql c (.int .i64 1)) fun c=>Pk b c (.bool false) fun b=>.ite b (.op (.fad 2 a) fun a=>Lg 0 a fun a=>Cl iY [a,x1] fun a=>.fin [.val a]) (Lg 0 a fun b=>Bn .eql b (.int .i64 1) fun b=>Gf b true 1 a fun c=>.gop b true (.bin 0 .eql c (.int .i64 3)) fun c=>Pk b c (.bool false) fun b=>.scope (.ite b (.leaf 0 [b]) (Lg 0 a fun b=>Bn .eql b (.int .i64 2) fun b=>Gf b true 1 a fun c=>.gop b true (.bin 0 .eql c (.int .i64 1)) fun c=>.gop b true (.mv c) fun c=>Gf c false 1 a fun a=>.gop c false (.bin 0 .eql a (.int .i64 2)) fun a=>.gop b true (.pick c (.bool true) a) fun a=>Pk b a (.bool false) fun a=>.leaf 0 [a])) (fun b=>.ite (g b 0) (Lg 8 a fun a=>Cl iY [a,x1] fun a=>.fin [.val a]) (.fin [.val (.int .i64 (-1))])) fun a b=>ak a 1 (.leaf 1 b) .bad))
theorem aax (x0 x1:AV):CC Tryz.prog Hy [x0,x1] (M7 x0 x1):=cc Tryz.func206 [1,2,22] (fun _=>[])
def M0 (x0 x1:AV):Prog:=.op (.box x0) fun a=>Bn .lss x1 (.int .i64 1) fun b=>.ite b (.fin [.val (.int .i64 (-1))]) (Lg 0 a fun b=>Bn .eql b (.int .i64 1) fun b=>Gf b true 1 a fun c=>.gop b true (.bin 0 .eql c (.int .i64 1)) fun c=>Pk b c (.bool false) fun b=>.ite b (.op (.fad 2 a) fun a=>Lg 0 a fun a=>Cl eU [a,x1] fun a=>.fin [.val a]) (Lg 0 a fun b=>Bn .eql b (.int .i64 1) fun b=>Gf b true 1 a fun c=>.gop b true (.bin 0 .eql c (.int .i64 3)) fun c=>Pk b c (.bool false) fun b=>.scope (.ite b (.leaf 0 [b]) (Lg 0 a fun b=>Bn .eql b (.int .i64 2) fun b=>Gf b true 1 a fun c=>.gop b true (.bin 0 .eql c (.int .i64 1)) fun c=>.gop b true (.mv c) fun c=>Gf c false 1 a fun a=>.gop c false (.bin 0 .eql a (.int .i64 2)) fun a=>.gop b true (.pick c (.bool true) a) fun a=>Pk b a (.bool false) fun a=>.leaf 0 [a])) (fun b=>.ite (g b 0) (Lg 8 a fun a=>Cl eU [a,x1] fun a=>.fin [.val a]) (.fin [.val (.int .i64 (-1))])) fun a b=>ak a 1 (.leaf 1 b) .bad))
theorem aap (x0 x1:AV):CC Tryz.prog Hr [x0,x1] (M0 x0 x1):=cc Tryz.func182 [1,2,21] (fun _=>[])
def Qr (x0:AV):Prog:=.op (.box x0) fun a=>Lg 3 a fun b=>Ln 0 b fun c=>.loop [.int .i64 0] (fun d=>Bn .lss (g d 0) c fun c=>.ite c (Ix 6 b (g d 0) fun b=>Ld 6 b fun b=>.op (.alloc iJ) fun c=>.op (.st 6 c b) fun _=>Ld 6 c fun b=>Cl qG [b] fun b=>.op (.una .not b) fun b=>Gf b false 0 c fun c=>Gf b false 0 a fun a=>.gop b false (.bin 0 .neq c a) fun a=>Pk b (.bool true) a fun a=>.ite a (.fin [.val (.bool false)]) (Bn .add (g d 0) (.int .i64 1) fun a=>.leaf 0 [a])) (.leaf 2 [g d 0])) fun b c=>ak b 1 (.leaf 1 c) (ak b 2 (Lg 0 a fun b=>Cl bA [b,.int .i64 1,.int .i64 999] fun b=>Gf b true 1 a fun c=>.gop b true (.bin 0 .geq c (.int .i64 1)) fun c=>Pk b c (.bool false) fun b=>Gf b true 2 a fun c=>.gop b true (.call bA [c,.int .i64 0,.int .i64 2147483647]) fun c=>Pk b c (.bool false) fun b=>Gf b true 3 a fun a=>.gop b true (.len 0 a) fun a=>.gop b true (.bin 0 .gtr a (.int .i64 0)) fun a=>Pk b a (.bool false) fun a=>.fin [.val a]) .bad)
theorem ags (x0:AV):CC Tryz.prog Dy [x0] (Qr x0):=cc Tryz.func267 [1,6,7,8] (fun _=>[])
def PU (x0:AV):Prog:=.op (.box x0) fun a=>.loop [.int .i64 0] (fun b=>Lg 3 a fun c=>Ln 0 c fun c=>Bn .lss (g b 0) c fun c=>.ite c (Lg 3 a fun c=>Ix 6 c (g b 0) fun c=>Ld 6 c fun c=>Cl qE [c] fun c=>.op (.una .not c) fun c=>Gf c false 3 a fun d=>.gop c false (.mv (g b 0)) fun e=>.gop c false (.idx 6 d e) fun d=>Gf c false 0 d fun d=>Gf c false 0 a fun a=>.gop c false (.bin 0 .neq d a) fun a=>Pk c (.bool true) a fun a=>.ite a (.fin [.val (.bool false)]) (Bn .add (g b 0) (.int .i64 1) fun a=>.leaf 0 [a])) (.leaf 2 [g b 0])) fun b c=>ak b 1 (.leaf 1 c) (ak b 2 (Lg 0 a fun b=>Cl bI [b,.int .i64 1,.int .i64 999] fun b=>Gf b true 1 a fun c=>.gop b true (.bin 0 .geq c (.int .i64 1)) fun c=>Pk b c (.bool false) fun b=>Gf b true 2 a fun c=>.gop b true (.call bI [c,.int .i64 0,.int .i64 2147483647]) fun c=>Pk b c (.bool false) fun b=>Gf b true 3 a fun a=>.gop b true (.len 0 a) fun a=>.gop b true (.bin 0 .geq a (.int .i64 1)) fun a=>Pk b a (.bool false) fun a=>.fin [.val a]) .bad)
theorem afI (x0:AV):CC Tryz.prog CZ [x0] (PU x0):=cc Tryz.func174 [1,3] (fun r=>if r=4 then[(0,[]),(1,[]),(2,[]),(3,[]),(4,[]),(5,[]),(6,[]),(7,[]),(8,[]),(9,[]),(10,[]),(11,[]),(12,[]),(13,[]),(14,[]),(15,[]),(16,[]),(17,[])] else[])
end
section
variable{P:Program} {h:AH} {Q:Nat→List AV→AH→Prop} {k:AV→Prog}
theorem FQ {p:Nat} (hp:p < 9223372036854775808):(BitVec.ofInt 64 (p:Int)).toNat=p:=by
 rw[BitVec.ofInt_natCast,BitVec.toNat_ofNat];omega
theorem FB {p q:Nat} (hp:p < 9223372036854775808) (hq:q < 9223372036854775808) (hk:(k (.int .i64 ((p &&& q:Nat):Int))).awp P h Q):(Prog.op (.bin 0 .and (.int .i64 (p:Int)) (.int .i64 (q:Int))) k).awp P h Q:=by
 have e:eP .and (.int .i64 (p:Int)) (.int .i64 (q:Int))=some (.int .i64 ((p &&& q:Nat):Int)):=by
  have h1:(BitVec.ofInt 64 (p:Int) &&& BitVec.ofInt 64 (q:Int)).toNat=p &&& q:=by rw[BitVec.toNat_and,FQ hp,FQ hq]
  have h2:p &&& q≤p:=Nat.and_le_left
  show(if IntKind.i64=IntKind.i64 then some (AV.int .i64 (IntKind.i64.wrap ((BitVec.ofInt 64 (p:Int) &&& BitVec.ofInt 64 (q:Int)).toNat:Int))) else none)=_
  rw[if_pos rfl,h1,kg (by omega) (by omega)]
 simp only[Prog.awp,AOp.go,fA,e];exact hk
theorem VF {a:Int} (hk:(k (.int .i64 (((BitVec.ofInt 64 a).toNat % 65536:Nat):Int))).awp P h Q):(Prog.op (.bin 0 .and (.int .i64 a) (.int .i64 65535)) k).awp P h Q:=by
 have e:eP .and (.int .i64 a) (.int .i64 65535)=some (.int .i64 (((BitVec.ofInt 64 a).toNat % 65536:Nat):Int)):=by
  have h1:(BitVec.ofInt 64 a &&& BitVec.ofInt 64 65535).toNat=(BitVec.ofInt 64 a).toNat % 65536:=by
   rw[BitVec.toNat_and,show(BitVec.ofInt 64 65535).toNat=2 ^ 16 - 1 by decide,Nat.and_two_pow_sub_one_eq_mod]
  show(if IntKind.i64=IntKind.i64 then some (AV.int .i64 (IntKind.i64.wrap ((BitVec.ofInt 64 a &&& BitVec.ofInt 64 65535).toNat:Int))) else none)=_
  rw[if_pos rfl,h1,kg (by omega) (by omega)]
 simp only[Prog.awp,AOp.go,fA,e];exact hk
theorem wZ {p q:Nat} (hp:p < 4294967296) (hq:q < 4294967296) (hk:(k (.int .i64 ((p ^^^ q:Nat):Int))).awp P h Q):(Prog.op (.bin 0 .xor (.int .i64 (p:Int)) (.int .i64 (q:Int))) k).awp P h Q:=by
 have e:eP .xor (.int .i64 (p:Int)) (.int .i64 (q:Int))=some (.int .i64 ((p ^^^ q:Nat):Int)):=by
  have h1:(BitVec.ofInt 64 (p:Int) ^^^ BitVec.ofInt 64 (q:Int)).toNat=p ^^^ q:=by rw[BitVec.toNat_xor,FQ (by omega),FQ (by omega)]
  have h2:p ^^^ q < 2 ^ 32:=Nat.xor_lt_two_pow hp hq
  show(if IntKind.i64=IntKind.i64 then some (AV.int .i64 (IntKind.i64.wrap ((BitVec.ofInt 64 (p:Int) ^^^ BitVec.ofInt 64 (q:Int)).toNat:Int))) else none)=_
  rw[if_pos rfl,h1,kg (by omega) (by omega)]
 simp only[Prog.awp,AOp.go,fA,e];exact hk
theorem VA {p:Nat} (hp:p < 65536) (hk:(k (.int .i64 ((p * 128:Nat):Int))).awp P h Q):(Prog.op (.bin 0 .shl (.int .i64 (p:Int)) (.int .u64 7)) k).awp P h Q:=by
 have e:eP .shl (.int .i64 (p:Int)) (.int .u64 7)=some (.int .i64 ((p * 128:Nat):Int)):=by
  show(if(7:Int) < 0 then none else some (AV.int .i64 (IntKind.i64.wrap ((p:Int) * 2 ^ (min (7:Int).toNat IntKind.i64.bits)))))=_
  rw[if_neg (by decide),show(2:Int) ^ (min (7:Int).toNat IntKind.i64.bits)=128 by decide,kg (by omega) (by omega)]
  simp
 simp only[Prog.awp,AOp.go,fA,e];exact hk
theorem Vz {p:Nat} (hp:p < 65536) (hk:(k (.int .i64 ((p * 256:Nat):Int))).awp P h Q):(Prog.op (.bin 0 .shl (.int .i64 (p:Int)) (.int .u64 8)) k).awp P h Q:=by
 have e:eP .shl (.int .i64 (p:Int)) (.int .u64 8)=some (.int .i64 ((p * 256:Nat):Int)):=by
  show(if(8:Int) < 0 then none else some (AV.int .i64 (IntKind.i64.wrap ((p:Int) * 2 ^ (min (8:Int).toNat IntKind.i64.bits)))))=_
  rw[if_neg (by decide),show(2:Int) ^ (min (8:Int).toNat IntKind.i64.bits)=256 by decide,kg (by omega) (by omega)]
  simp
 simp only[Prog.awp,AOp.go,fA,e];exact hk
theorem Vy {p:Nat} (hk:(k (.int .i64 ((p / 512:Nat):Int))).awp P h Q):(Prog.op (.bin 0 .shr (.int .i64 (p:Int)) (.int .u64 9)) k).awp P h Q:=by
 have e:eP .shr (.int .i64 (p:Int)) (.int .u64 9)=some (.int .i64 ((p / 512:Nat):Int)):=by
  show(if(9:Int) < 0 then none else some (AV.int .i64 ((p:Int).fdiv (2 ^ (min (9:Int).toNat IntKind.i64.bits)))))=_
  rw[if_neg (by decide),show(2:Int) ^ (min (9:Int).toNat IntKind.i64.bits)=512 by decide,Int.fdiv_eq_ediv_of_nonneg _ (by decide),show(p:Int) / 512=((p / 512:Nat):Int) by omega]
 simp only[Prog.awp,AOp.go,fA,e];exact hk
end
def iO (n:Int):Nat:=(BitVec.ofInt 64 n).toNat % 65536
def mQ (a:Nat):Nat:=a ^^^ (a * 128) % 65536
def AA (a:Nat):Nat:=a ^^^ a / 512
def anl (a:Nat):Nat:=a ^^^ (a * 256) % 65536
def mix (n:Int):Nat:=anl (AA (mQ (iO n)))
theorem U5 (n:Int):iO n < 65536:=Nat.mod_lt _ (by decide)
theorem U4 {a:Nat} (h:a < 65536):mQ a < 65536:=Nat.xor_lt_two_pow (n:=16) h (Nat.mod_lt _ (by decide))
theorem U3 {a:Nat} (h:a < 65536):AA a < 65536:=Nat.xor_lt_two_pow (n:=16) h (by omega)
theorem aiV {h:AH} {n:Int}:aO Tryz.prog Ep [.int .i64 n] h (.int .i64 (mix n:Nat)):=by
 refine reader (ajn _) (by simp only[old]) ?_
 unfold Tg
 have l0:=U5 n
 have l1:=U4 l0
 have l2:=U3 l1
 refine VF ?_
 rw[show(BitVec.ofInt 64 n).toNat % 65536=iO n from rfl]
 refine VA l0 (FB (q:=65535) (by omega) (by decide) (wZ (by omega) ?_ ?_))
 ·exact Nat.lt_of_le_of_lt Nat.and_le_right (by decide)
 rw[Nat.and_two_pow_sub_one_eq_mod (n:=16),show iO n ^^^ iO n * 128 % 2 ^ 16=mQ (iO n) from rfl]
 refine Vy (wZ (by omega) (by omega) ?_)
 rw[show mQ (iO n) ^^^ mQ (iO n) / 512=AA (mQ (iO n)) from rfl]
 refine Vz l2 (FB (q:=65535) (by omega) (by decide) (wZ (by omega) ?_ ?_))
 ·exact Nat.lt_of_le_of_lt Nat.and_le_right (by decide)
 rw[Nat.and_two_pow_sub_one_eq_mod (n:=16)]
 exact dK (pi rfl)
theorem aiQ {h:AH} {n:Int}:aO Tryz.prog En [.int .i64 n] h (.int .i64 (mix n:Nat)):=by
 refine reader (aji _) (by simp only[old]) ?_
 unfold Ta
 have l0:=U5 n
 have l1:=U4 l0
 have l2:=U3 l1
 have x1:∀ a:Nat,a < 65536→(a ^^^ (a * 128)) < 4294967296:=fun a ha=>Nat.xor_lt_two_pow (n:=32) (by omega) (by omega)
 have x2:∀ a:Nat,a < 65536→(a ^^^ (a * 256)) < 4294967296:=fun a ha=>Nat.xor_lt_two_pow (n:=32) (by omega) (by omega)
 have y1:=x1 _ l0
 have y2:=x2 _ l2
 refine VF ?_
 rw[show(BitVec.ofInt 64 n).toNat % 65536=iO n from rfl]
 refine VA l0 (wZ (by omega) (by omega) (FB (q:=65535) (by omega) (by decide) ?_))
 rw[Nat.and_two_pow_sub_one_eq_mod (n:=16),Nat.xor_mod_two_pow,Nat.mod_eq_of_lt (a:=iO n) (b:=2 ^ 16) l0,show iO n ^^^ iO n * 128 % 2 ^ 16=mQ (iO n) from rfl]
 refine Vy (wZ (by omega) (by omega) ?_)
 rw[show mQ (iO n) ^^^ mQ (iO n) / 512=AA (mQ (iO n)) from rfl]
 refine Vz l2 (wZ (by omega) (by omega) (FB (q:=65535) (by omega) (by decide) ?_))
 rw[Nat.and_two_pow_sub_one_eq_mod (n:=16),Nat.xor_mod_two_pow,Nat.mod_eq_of_lt (a:=AA (mQ (iO n))) (b:=2 ^ 16) l2]
 exact dK (pi rfl)
def stripe (t n:Int):Int:=if n < 1 then 0 else((mix t:Nat):Int).tmod n
theorem iG {t n:Int} (hn:1≤n):0≤stripe t n∧stripe t n < n:=by
 unfold stripe
 rw[if_neg (by omega)]
 exact⟨Int.tmod_nonneg _ (by omega),Int.tmod_lt_of_pos _ (by omega)⟩
theorem qx {h:AH} {t n:Int}:aO Tryz.prog iY [.int .i64 t,.int .i64 n] h (.int .i64 (stripe t n)):=by
 refine reader (aen _ _) (by simp only[old]) ?_
 unfold OW
 (repeat' first|refine vs ?_|(refine br ?_ ?_<;>first|exact bx|intro _)|((with_reducible refine ay Ep ?_);refine aK aiV ?_)|fail)
 ·exact pi (by unfold stripe;rw[if_pos (by assumption)])
 ·refine rD (by omega) (dK (pi ?_))
  unfold stripe;rw[if_neg (by assumption)]
theorem iq {h:AH} {t n:Int}:aO Tryz.prog eU [.int .i64 t,.int .i64 n] h (.int .i64 (stripe t n)):=by
 refine reader (adQ _ _) (by simp only[old]) ?_
 unfold Oq
 (repeat' first|refine vs ?_|(refine br ?_ ?_<;>first|exact bx|intro _)|((with_reducible refine ay En ?_);refine aK aiQ ?_)|fail)
 ·exact pi (by unfold stripe;rw[if_pos (by assumption)])
 ·refine rD (by omega) (dK (pi ?_))
  unfold stripe;rw[if_neg (by assumption)]
def dU (t:Task) (n:Int):Int:=if n < 1 then -1 else if t.op=1∧t.pc=1 then stripe t.s.trace n else if(t.op=1∧t.pc=3)∨(t.op=2∧(t.pc=1∨t.pc=2)) then stripe t.trace n else -1
theorem aai {h:AH} {t:Task} {n:Int} {v v':AV}:aO Tryz.prog Hy [.agg (t.cs v v'),.int .i64 n] h (.int .i64 (dU t n)):=by
 refine reader (aax _ _) (by simp only[old]) ?_
 unfold M7
 (repeat' first|refine vs ?_|(refine br ?_ ?_<;>first|exact bo|intro _)|((with_reducible refine ay iY ?_);refine aK qx ?_)|((with_reducible refine bF ?_);simp only[g0,g1,g2]))
 all_goals(refine pi ?_;simp[dU, *])
theorem aae {h:AH} {t:Task} {n:Int} {v v':AV}:aO Tryz.prog Hr [.agg (t.cs v v'),.int .i64 n] h (.int .i64 (dU t n)):=by
 refine reader (aap _ _) (by simp only[old]) ?_
 unfold M0
 (repeat' first|refine vs ?_|(refine br ?_ ?_<;>first|exact bo|intro _)|((with_reducible refine ay eU ?_);refine aK iq ?_)|((with_reducible refine bF ?_);simp only[g0,g1,g2]))
 all_goals(refine pi ?_;simp[dU, *])
def ER (t:Trail):Prop:=(∀ s∈t.spans,pO s∧s.trace=t.id)∧(1≤t.id∧t.id≤999)∧1≤t.stamp∧(0≤t.first∧t.first≤2147483647)∧0 < (t.spans.length:Int)
theorem ae9 {h:AH} {t:Trail} {v:AV} {F:List Nat} (ok:∀ x∈t.spans,Cel.ok x) (hs:Sz.sz t≤67108864) (r:aj h v t.spans F):aO Tryz.prog Dy [.agg (t.cs v)] h (.bool (bp (ER t))):=by
 refine reader (ags _) (by simp only[old]) ?_
 unfold Qr
 have hsz:Sz.sz t=t.spans.length+szs t.spans:=rfl
 refine vs ?_
 refine aT t.spans.length (fun i vs h1=>vs=[.int .i64 (i:Int)]∧i≤t.spans.length∧Ext (h.push ⟨t.cs v,0,0⟩) h1∧bZ t.spans (fun _ s=>pO s∧s.trace=t.id) i) ⟨rfl,Nat.zero_le _,aA,up0⟩ ?_
 rintro i vs h1 _ ⟨rfl,hi,e1,hu⟩
 simp only[g0]
 refine br (fun hlt=>?_) (fun hge=>?_)
 ·obtain⟨x,hx,-,-⟩:=aQ (show i < t.spans.length by omega)
  have hm:=List.mem_of_getElem? hx
  have h5:=bf hm
  (repeat' first|refine vs ?_|(refine br ?_ ?_<;>first|exact bx|intro _)|((with_reducible refine ay qG ?_);(refine aU (Jv (ok x hm) (by omega) ah) ?_ ?_<;>intro hn))|((with_reducible refine aP ?_);((refine ix ?_);rintro _ _ _ _ _ ⟨_,rfl,_⟩ _))|fail)
  all_goals first
   |exact pf fun k=>iT hx (by rintro⟨a1,a2⟩;contradiction) k.1
   |exact⟨by omega,rfl,by omega,aA,upS hu hx ⟨hn,by omega⟩⟩
 ·have e:i=t.spans.length:=by omega
  rw[e] at hu
  have hu:=fZ hu
  (repeat' first|refine vs ?_|(refine br ?_ ?_<;>first|exact bx|intro _)|((with_reducible refine ay bA ?_);(refine cZ gF ?_ ?_<;>intro hb<;>first|replace hb:=dD hb|replace hb:=dH hb))|fail)
  all_goals first
   |exact pt ⟨hu,by omega,by omega,by omega,by omega⟩
   |exact pf fun k=>by obtain⟨a1,a2,a3,a4,a5⟩:=k;omega
theorem aeG {h:AH} {t:Trail} {v:AV} {F:List Nat} (ok:∀ x∈t.spans,Cel.ok x) (hs:Sz.sz t≤67108864) (r:aj h v t.spans F):aO Tryz.prog CZ [.agg (t.cs v)] h (.bool (bp (ER t))):=by
 refine reader (afI _) (by simp only[old]) ?_
 unfold PU
 have hsz:Sz.sz t=t.spans.length+szs t.spans:=rfl
 have hsm:=r.small
 refine vs ?_
 refine aT t.spans.length (fun i vs h1=>vs=[.int .i64 (i:Int)]∧i≤t.spans.length∧Ext (h.push ⟨t.cs v,0,0⟩) h1∧bZ t.spans (fun _ s=>pO s∧s.trace=t.id) i) ⟨rfl,Nat.zero_le _,aA,up0⟩ ?_
 rintro i vs h1 _ ⟨rfl,hi,e1,hu⟩
 simp only[g0]
 refine vs ?_
 refine br (fun hlt=>?_) (fun hge=>?_)
 ·obtain⟨x,hx,-,-⟩:=aQ (show i < t.spans.length by omega)
  have hm:=List.mem_of_getElem? hx
  have h5:=bf hm
  (repeat' first|refine vs ?_|(refine br ?_ ?_<;>first|exact bx|intro _)|((with_reducible refine ay qE ?_);(refine aU (Jt (ok x hm) (by omega) ah) ?_ ?_<;>intro hn))|((with_reducible refine aP ?_);((refine ix ?_);rintro _ _ _ _ _ ⟨_,rfl,_⟩ _))|fail)
  all_goals first
   |exact pf fun k=>iT hx (by rintro⟨a1,a2⟩;contradiction) k.1
   |exact⟨by omega,rfl,by omega,aA,upS hu hx ⟨hn,by omega⟩⟩
 ·have e:i=t.spans.length:=by omega
  rw[e] at hu
  have hu:=fZ hu
  (repeat' first|refine vs ?_|(refine br ?_ ?_<;>first|exact bx|intro _)|((with_reducible refine ay bI ?_);(refine cZ iw ?_ ?_<;>intro hb<;>first|replace hb:=dD hb|replace hb:=dH hb))|fail)
  all_goals first
   |exact pt ⟨hu,by omega,by omega,by omega,by omega⟩
   |exact pf fun k=>by obtain⟨a1,a2,a3,a4,a5⟩:=k;omega
def fits (c:gD) (s:Span):Prop:=pO s∧dM s≤c.budget
end Go.Proofs.YtekfdoknfcedpaaGreat
end
section
set_option linter.unusedSimpArgs false
set_option linter.unusedVariables false
set_option maxHeartbeats 1000000
namespace Go.Proofs.YtekfdoknfcedpaaGreat
open Go Go.Ab
section
def OU (x0:AV):Prog:=.op (.box x0) fun a=>.op (.alloc iJ) fun b=>Lg 5 a fun c=>.op (.app 4 48 .au c) fun c=>Sg 5 a c fun _=>Ld 6 a fun a=>.op (.st 6 b a) fun _=>.fin [.cn 6 b]
theorem ael (x0:AV):CC Tryz.prog kJ [x0] (OU x0):=cc Tryz.func80
def QS (x0:AV):Prog:=.op (.box x0) fun a=>.op (.alloc iJ) fun b=>.op (.aW 4 0 [] []) fun c=>Lg 5 a fun d=>.op (.app 4 48 c d) fun c=>Sg 5 a c fun _=>Ld 6 a fun a=>.op (.st 6 b a) fun _=>.fin [.cn 6 b]
theorem ahf (x0:AV):CC Tryz.prog lC [x0] (QS x0):=cc Tryz.func161
def ab4 (x0:AV):Prog:=Ln 0 x0 fun a=>.loop [.au,.int .i64 0] (fun b=>Bn .lss (g b 1) a fun a=>.ite a (Ix 6 x0 (g b 1) fun a=>Ld 6 a fun a=>.op (.alloc iJ) fun c=>.op (.st 6 c a) fun _=>Ld 6 c fun a=>Cl kJ [a] fun a=>.op (.aW 6 1 iJ [(0,6,a)]) fun a=>.op (.app 6 64 (g b 0) a) fun a=>Bn .add (g b 1) (.int .i64 1) fun b=>.leaf 0 [a,b]) (.leaf 2 [g b 0,g b 1])) fun a b=>ak a 1 (.leaf 1 b) (ak a 2 (.fin [.val (g b 0)]) .bad)
theorem acT (x0:AV):CC Tryz.prog Cb [x0] (ab4 x0):=cc Tryz.func280 [3,6,7,8] (fun _=>[])
def aie (x0:AV):Prog:=.op (.aW 6 0 [] []) fun a=>.loop [a,.int .i64 0] (fun a=>Ln 0 x0 fun b=>Bn .lss (g a 1) b fun b=>.ite b (Ix 6 x0 (g a 1) fun b=>Ld 6 b fun b=>Cl lC [b] fun b=>.op (.alloc iJ) fun c=>.op (.st 6 c b) fun _=>Ld 6 c fun b=>.op (.aW 6 1 iJ [(0,6,b)]) fun b=>.op (.app 6 64 (g a 0) b) fun b=>Bn .add (g a 1) (.int .i64 1) fun a=>.leaf 0 [b,a]) (.leaf 2 [g a 0,g a 1])) fun a b=>ak a 1 (.leaf 1 b) (ak a 2 (.fin [.val (g b 0)]) .bad)
theorem aik (x0:AV):CC Tryz.prog Ef [x0] (aie x0):=cc Tryz.func308 [0,3,4] (fun _=>[])
def NY (x0:AV):Prog:=.op (.box x0) fun a=>.op (.alloc [.int .i64 0,.int .i64 0,.int .i64 0,.au]) fun b=>Lg 3 a fun c=>Cl Cb [c] fun c=>Sg 3 a c fun _=>Ld 4 a fun a=>.op (.st 4 b a) fun _=>.fin [.cn 4 b]
theorem acS (x0:AV):CC Tryz.prog yJ [x0] (NY x0):=cc Tryz.func214
def PN (x0:AV):Prog:=.op (.box x0) fun a=>.op (.alloc [.int .i64 0,.int .i64 0,.int .i64 0,.au]) fun b=>Lg 3 a fun c=>Cl Ef [c] fun c=>Sg 3 a c fun _=>Ld 4 a fun a=>.op (.st 4 b a) fun _=>.fin [.cn 4 b]
theorem afF (x0:AV):CC Tryz.prog sM [x0] (PN x0):=cc Tryz.func248
def aaV (x0:AV):Prog:=Ln 0 x0 fun a=>.loop [.au,.int .i64 0] (fun b=>Bn .lss (g b 1) a fun a=>.ite a (Ix 4 x0 (g b 1) fun a=>Ld 4 a fun a=>.op (.alloc [.int .i64 0,.int .i64 0,.int .i64 0,.au]) fun c=>.op (.st 4 c a) fun _=>Ld 4 c fun a=>Cl yJ [a] fun a=>.op (.aW 4 1 [.int .i64 0,.int .i64 0,.int .i64 0,.au] [(0,4,a)]) fun a=>.op (.app 4 48 (g b 0) a) fun a=>Bn .add (g b 1) (.int .i64 1) fun b=>.leaf 0 [a,b]) (.leaf 2 [g b 0,g b 1])) fun a b=>ak a 1 (.leaf 1 b) (ak a 2 (.fin [.val (g b 0)]) .bad)
theorem aa7 (x0:AV):CC Tryz.prog sD [x0] (aaV x0):=cc Tryz.func193 [3,6,7,8] (fun _=>[])
def ag5 (x0:AV):Prog:=.op (.aW 4 0 [] []) fun a=>.loop [a,.int .i64 0] (fun a=>Ln 0 x0 fun b=>Bn .lss (g a 1) b fun b=>.ite b (Ix 4 x0 (g a 1) fun b=>Ld 4 b fun b=>Cl sM [b] fun b=>.op (.alloc [.int .i64 0,.int .i64 0,.int .i64 0,.au]) fun c=>.op (.st 4 c b) fun _=>Ld 4 c fun b=>.op (.aW 4 1 [.int .i64 0,.int .i64 0,.int .i64 0,.au] [(0,4,b)]) fun b=>.op (.app 4 48 (g a 0) b) fun b=>Bn .add (g a 1) (.int .i64 1) fun a=>.leaf 0 [b,a]) (.leaf 2 [g a 0,g a 1])) fun a b=>ak a 1 (.leaf 1 b) (ak a 2 (.fin [.val (g b 0)]) .bad)
theorem ahj (x0:AV):CC Tryz.prog sZ [x0] (ag5 x0):=cc Tryz.func170 [0,3,4] (fun _=>[])
def M6 (x0:AV):Prog:=Ln 0 x0 fun a=>.loop [.au,.int .i64 0] (fun b=>Bn .lss (g b 1) a fun a=>.ite a (Ix 2 x0 (g b 1) fun a=>Ld 2 a fun a=>.op (.alloc [.int .i64 0,.au]) fun c=>.op (.st 2 c a) fun _=>.op (.fad 0 c) fun a=>.op (.ld1 a) fun d=>Lg 1 c fun c=>Cl sD [c] fun c=>.chk (.ld1 a) d (.op (.build [.int .i64 0,.au] [(0,1,d),(1,1,c)]) fun a=>.op (.aW 2 1 [.int .i64 0,.au] [(0,2,a)]) fun a=>.op (.app 2 32 (g b 0) a) fun a=>Bn .add (g b 1) (.int .i64 1) fun b=>.leaf 0 [a,b])) (.leaf 2 [g b 0,g b 1])) fun a b=>ak a 1 (.leaf 1 b) (ak a 2 (.fin [.val (g b 0)]) .bad)
theorem aaw (x0:AV):CC Tryz.prog Bq [x0] (M6 x0):=cc Tryz.func120 [3,6,7,8] (fun r=>if r=5 then[(0,[]),(1,[]),(2,[]),(3,[]),(4,[]),(5,[2]),(6,[]),(7,[]),(8,[]),(9,[])] else[])
def PL (x0:AV):Prog:=.op (.aW 2 0 [] []) fun a=>.loop [a,.int .i64 0] (fun a=>Ln 0 x0 fun b=>Bn .lss (g a 1) b fun b=>.ite b (Ix 2 x0 (g a 1) fun b=>.op (.fad 0 b) fun b=>.op (.ld1 b) fun c=>Ix 2 x0 (g a 1) fun d=>Lg 1 d fun d=>Cl sZ [d] fun d=>.chk (.ld1 b) c (.op (.build [.int .i64 0,.au] [(0,1,c),(1,1,d)]) fun b=>.op (.aW 2 1 [.int .i64 0,.au] [(0,2,b)]) fun b=>.op (.app 2 32 (g a 0) b) fun b=>Bn .add (g a 1) (.int .i64 1) fun a=>.leaf 0 [b,a])) (.leaf 2 [g a 0,g a 1])) fun a b=>ak a 1 (.leaf 1 b) (ak a 2 (.fin [.val (g b 0)]) .bad)
theorem afE (x0:AV):CC Tryz.prog CY [x0] (PL x0):=cc Tryz.func92 [0,3,4] (fun r=>if r=5 then[(0,[]),(1,[]),(2,[]),(3,[]),(4,[]),(5,[]),(6,[]),(7,[]),(8,[]),(9,[]),(10,[]),(11,[5]),(12,[]),(13,[]),(14,[]),(15,[])] else[])
end
theorem sF (x:Span) (hs:Sz.sz x≤67108864):dJ Span Tryz.prog kJ x:=by
 rintro cs F h ⟨v0,rfl,r0⟩
 have hs:(x.attrs.length+szs x.attrs)≤67108864:=hs
 refine ael _ ?_
 unfold OU
 (repeat' first|refine vs ?_|fail)
 refine app0 (n:=h.n+2) (ys:=x.attrs) (Fy:=F) ah (oU (α:=Attr) r0 _) aL rfl (by omega) ?_
 intro u h' F' e r' o'
 have n1:=e.1
 simp only[aD] at n1
 (repeat' first|refine vs ?_|fail)
 exact⟨rfl,_,rfl,aA,_,_,rfl,⟨_,rfl,ah⟩,aZ⟩
theorem sU (x:Span) (hs:Sz.sz x≤67108864):dJ Span Tryz.prog lC x:=by
 rintro cs F h ⟨v0,rfl,r0⟩
 have hs:(x.attrs.length+szs x.attrs)≤67108864:=hs
 refine ahf _ ?_
 unfold QS
 (repeat' first|refine vs ?_|fail)
 refine GV (n:=h.n+2) (ys:=x.attrs) (Fy:=F) ah (oU (α:=Attr) r0 _) aL rfl (by omega) ?_
 intro u h' F' e r' o'
 have n1:=e.1
 simp only[aD] at n1
 (repeat' first|refine vs ?_|fail)
 exact⟨rfl,_,rfl,aA,_,_,rfl,⟨_,rfl,ah⟩,aZ⟩
theorem abB (xs:List Span) (hs:xs.length+szs xs≤67108864):fI Tryz.prog Cb xs:=fun v F h r=>
 acT _ (TH rfl rfl (by decide) (fun x hx=>sF x (by have:=bf hx;omega)) r (by omega))
theorem ah5 (xs:List Span) (hs:xs.length+szs xs≤67108864):fI Tryz.prog Ef xs:=fun v F h r=>
 aik _ (Kq rfl rfl (by decide) (fun x hx=>sU x (by have:=bf hx;omega)) r (by omega))
theorem Nn (x:Trail) (hs:Sz.sz x≤67108864):dJ Trail Tryz.prog yJ x:=by
 rintro cs F h ⟨v0,rfl,r0⟩
 have hs:(x.spans.length+szs x.spans)≤67108864:=hs
 refine acS _ ?_
 unfold NY
 (repeat' first|refine vs ?_|((with_reducible refine ay Cb ?_);(refine aG (abB _ hs _ _ _ ah) ?_;rintro _ _ ⟨e_,_,_,_⟩;have n_:=e_.1;(try simp only[aD,aN] at n_)))|fail)
 exact⟨rfl,_,rfl,aA,_,_,rfl,⟨_,rfl,ah⟩,aZ⟩
theorem I8 (x:Trail) (hs:Sz.sz x≤67108864):dJ Trail Tryz.prog sM x:=by
 rintro cs F h ⟨v0,rfl,r0⟩
 have hs:(x.spans.length+szs x.spans)≤67108864:=hs
 refine afF _ ?_
 unfold PN
 (repeat' first|refine vs ?_|((with_reducible refine ay Ef ?_);(refine aG (ah5 _ hs _ _ _ ah) ?_;rintro _ _ ⟨e_,_,_,_⟩;have n_:=e_.1;(try simp only[aD,aN] at n_)))|fail)
 exact⟨rfl,_,rfl,aA,_,_,rfl,⟨_,rfl,ah⟩,aZ⟩
theorem HY (xs:List Trail) (hs:xs.length+szs xs≤67108864):fI Tryz.prog sD xs:=fun v F h r=>
 aa7 _ (TH rfl rfl (by decide) (fun x hx=>Nn x (by have:=bf hx;omega)) r (by omega))
theorem DL (xs:List Trail) (hs:xs.length+szs xs≤67108864):fI Tryz.prog sZ xs:=fun v F h r=>
 ahj _ (Kq rfl rfl (by decide) (fun x hx=>I8 x (by have:=bf hx;omega)) r (by omega))
theorem MZ (xs:List aM) (hs:xs.length+szs xs≤67108864):fI Tryz.prog Bq xs:=by
 intro v F h r
 refine aaw _ ?_
 unfold M6
 have hsm:=r.small
 refine bC r ?_
 refine aT xs.length (fun i vs h1=>∃ u G,vs=[u,.int .i64 (i:Int)]∧i≤xs.length∧Ext h h1∧aj h1 u (xs.take i) G∧Own h.n h1 G) ⟨.au,[],rfl,Nat.zero_le _,Ext.refl _,aj.au,Own.nil⟩ ?_
 rintro i vs h1 _ ⟨u,G,rfl,hi,e1,ru,ou⟩
 have n1:=e1.1
 simp only[g0,g1]
 refine br (fun hlt=>?_) (fun hge=>?_)
 ·obtain⟨x,hx,-,htk⟩:=aQ (show i < xs.length by omega)
  have hm:=bf (List.mem_of_getElem? hx)
  have hx2:Sz.sz x=x.l.length+szs x.l:=rfl
  refine vs ?_
  refine bX r hx rfl ?_
  rintro b o _ Fi a ⟨v0,rfl,r0⟩ _
  (repeat' first|refine vs ?_|((with_reducible refine ay sD ?_);(refine aG (HY x.l (by omega) _ _ _ ah) ?_;rintro w2 h2 ⟨e2,G2,q2,o2⟩;have n2:=e2.1;(try simp only[aD,aN] at n2)))|fail)
  have hlen:(xs.take i).length=i:=by rw[List.length_take];omega
  refine app1 (n:=h.n) (xs:=xs.take i) (Fx:=G) (a:=x) ah ⟨_,rfl,q2⟩ (gH (aZ) o2 (by simp only[aD];omega) jy) aL rfl ?_ ?_ ?_
  ·rw[hlen];omega
  ·rw[hlen];omega
  intro u' h' F' ek kp r' o'
  (repeat' first|refine vs ?_|fail)
  exact⟨by omega,u',F',rfl,by omega,ek h aA (Nat.le_refl _),by rw[htk];exact r',o'⟩
 ·(repeat' first|refine vs ?_|fail)
  exact⟨rfl,u,rfl,e1,G,by rw[show i=xs.length by omega,List.take_length] at ru;exact ru,ou⟩
theorem O9 (xs:List aM) (hs:xs.length+szs xs≤67108864):fI Tryz.prog CY xs:=by
 intro v F h r
 refine afE _ ?_
 unfold PL
 have hsm:=r.small
 obtain⟨re,oe⟩:=jc (h:=h) (α:=aM) (w:=2) rfl
 refine vs ?_
 refine aT xs.length (fun i vs h1=>∃ u G,vs=[u,.int .i64 (i:Int)]∧i≤xs.length∧Ext h h1∧aj h1 u (xs.take i) G∧Own h.n h1 G) ⟨_,_,rfl,Nat.zero_le _,(Ext.refl _).push _,by rw[List.take_zero];exact re,oe _ (Nat.le_refl _)⟩ ?_
 rintro i vs h1 _ ⟨u,G,rfl,hi,e1,ru,ou⟩
 have n1:=e1.1
 simp only[g0,g1]
 refine bC r ?_
 refine br (fun hlt=>?_) (fun hge=>?_)
 ·obtain⟨x,hx,-,htk⟩:=aQ (show i < xs.length by omega)
  have hm:=bf (List.mem_of_getElem? hx)
  have hx2:Sz.sz x=x.l.length+szs x.l:=rfl
  (repeat' first|refine vs ?_|((with_reducible refine ay sZ ?_);(refine aG (DL x.l (by omega) _ _ _ ah) ?_;rintro w2 h2 ⟨e2,G2,q2,o2⟩;have n2:=e2.1;(try simp only[aD,aN] at n2)))|((with_reducible refine aP ?_);((refine ix ?_);rintro _ _ _ _ _ ⟨_,rfl,_⟩ _))|fail)
  have hlen:(xs.take i).length=i:=by rw[List.length_take];omega
  refine app1 (n:=h.n) (xs:=xs.take i) (Fx:=G) (a:=x) ah ⟨_,rfl,q2⟩ (gH (aZ) o2 (by omega) jy) aL rfl ?_ ?_ ?_
  ·rw[hlen];omega
  ·rw[hlen];omega
  intro u' h' F' ek kp r' o'
  (repeat' first|refine vs ?_|fail)
  exact⟨by omega,u',F',rfl,by omega,ek h aA (Nat.le_refl _),by rw[htk];exact r',o'⟩
 ·(repeat' first|refine vs ?_|fail)
  exact⟨rfl,u,rfl,e1,G,by rw[show i=xs.length by omega,List.take_length] at ru;exact ru,ou⟩
end Go.Proofs.YtekfdoknfcedpaaGreat
end
section
set_option linter.unusedSimpArgs false
set_option linter.unusedVariables false
set_option maxHeartbeats 1000000
namespace Go.Proofs.YtekfdoknfcedpaaGreat
open Go Go.Ab
section
def N9 (x0:AV):Prog:=Ln 0 x0 fun a=>.loop [.au,.int .i64 0] (fun b=>Bn .lss (g b 1) a fun a=>.ite a (Ix 2 x0 (g b 1) fun a=>Ld 2 a fun a=>.op (.alloc [.int .i64 0,.au]) fun c=>.op (.st 2 c a) fun _=>Lg 1 c fun a=>Cl sD [a] fun a=>.op (.app 4 48 (g b 0) a) fun a=>Bn .add (g b 1) (.int .i64 1) fun b=>.leaf 0 [a,b]) (.leaf 2 [g b 0,g b 1])) fun a b=>ak a 1 (.leaf 1 b) (ak a 2 (.fin [.val (g b 0)]) .bad)
theorem acX (x0:AV):CC Tryz.prog yK [x0] (N9 x0):=cc Tryz.func157 [3,6,7,8] (fun _=>[])
def Og (x0:AV):Prog:=Cl yK [x0] fun a=>Ln 0 a fun b=>.loop [.int .i64 0,.int .i64 0] (fun c=>Bn .lss (g c 1) b fun b=>.ite b (Ix 4 a (g c 1) fun a=>Ld 4 a fun a=>.op (.alloc [.int .i64 0,.int .i64 0,.int .i64 0,.au]) fun b=>.op (.st 4 b a) fun _=>Ld 4 b fun a=>Cl vT [a] fun a=>Bn .add (g c 0) a fun a=>Bn .add (g c 1) (.int .i64 1) fun b=>.leaf 0 [a,b]) (.leaf 2 [g c 0,g c 1])) fun a b=>ak a 1 (.leaf 1 b) (ak a 2 (.fin [.val (g b 0)]) .bad)
theorem ac3 (x0:AV):CC Tryz.prog Ch [x0] (Og x0):=cc Tryz.func201 [3,7,8,9] (fun _=>[])
def NC (x0:AV):Prog:=.loop [.int .i64 0,.int .i64 0,.tup []] (fun a=>Ln 0 x0 fun b=>Bn .lss (g a 1) b fun b=>.ite b (.loop [g a 0,.int .i64 0] (fun b=>Ix 2 x0 (g a 1) fun c=>Lg 1 c fun c=>Ln 0 c fun c=>Bn .lss (g b 1) c fun c=>.ite c (Ix 2 x0 (g a 1) fun a=>Lg 1 a fun a=>Ix 4 a (g b 1) fun a=>Ld 4 a fun a=>Cl vM [a] fun a=>Bn .add (g b 0) a fun a=>Bn .add (g b 1) (.int .i64 1) fun b=>.leaf 0 [a,b]) (.leaf 4 [g b 0,g b 1])) fun b c=>ak b 1 (.leaf 1 c) (ak b 4 (Bn .add (g a 1) (.int .i64 1) fun a=>.leaf 0 [g c 0,a,g c 1]) .bad)) (.leaf 2 [g a 0,g a 1,g a 2])) fun a b=>ak a 1 (.leaf 1 b) (ak a 2 (.fin [.val (g b 0)]) .bad)
theorem acg (x0:AV):CC Tryz.prog BK [x0] (NC x0):=cc Tryz.func101 [0,3,4,5] (fun _=>[])
end
def allT (l:List aM):List Trail:=l.flatMap (·.l)
theorem Ag {l:List aM} {i:Nat} {x:aM} (ht:l.take (i+1)=l.take i++[x]):allT (l.take (i+1))=allT (l.take i)++x.l:=by rw[ht];simp[allT]
theorem lK {α:Type} [Sz α]:∀ l r:List α,szs (l++r)=szs l+szs r
 |[],r=>by simp[szs]
 |x::l,r=>by simp only[List.cons_append,szs,lK l];omega
theorem uz:∀ l:List aM,(allT l).length+szs (allT l)≤szs l
 |[]=>by simp[allT,szs]
 |x::l=>by
  have:=uz l
  have e:allT (x::l)=x.l++allT l:=by simp[allT]
  have h2:Sz.sz x=x.l.length+szs x.l:=rfl
  rw[e,List.length_append,lK];simp only[szs];omega
theorem Ic {h:AH} {l:List aM} {v:AV} {F:List Nat} (hs:l.length+szs l≤67108864) (r:aj h v l F):bE Tryz.prog yK [v] h (ng Trail h (allT l)):=by
 refine acX _ ?_
 unfold N9
 have hsm:=r.small
 refine bC r ?_
 refine aT l.length (fun i vs h1=>∃ u G,vs=[u,.int .i64 (i:Int)]∧i≤l.length∧Ext h h1∧aj h1 u (allT (l.take i)) G∧Own h.n h1 G) ⟨.au,[],rfl,Nat.zero_le _,Ext.refl _,aj.au,Own.nil⟩ ?_
 rintro i vs h1 _ ⟨u,G,rfl,hi,e1,ru,ou⟩
 have n1:=e1.1
 simp only[g0,g1]
 have hlen:=uz (l.take i)
 have hle:=iP l i
 refine br (fun hlt=>?_) (fun hge=>?_)
 ·obtain⟨x,hx,-,htk⟩:=aQ (show i < l.length by omega)
  have hm:=bf (List.mem_of_getElem? hx)
  have hx2:Sz.sz x=x.l.length+szs x.l:=rfl
  refine vs ?_
  refine bX r hx rfl ?_
  rintro b o _ Fi a ⟨v0,rfl,r0⟩ _
  (repeat' first|refine vs ?_|((with_reducible refine ay sD ?_);(refine aG (HY x.l (by omega) _ _ _ ah) ?_;rintro w2 h2 ⟨e2,G2,q2,o2⟩;have n2:=e2.1;(try simp only[aD,aN] at n2)))|fail)
  refine amR (n:=h.n) (xs:=allT (l.take i)) (ys:=x.l) (Fx:=G) (Fy:=G2) ah q2 (gH (aZ) o2 aL jy) aL rfl ?_ ?_ ?_
  ·omega
  ·omega
  intro u' h' F' ek kp r' o'
  (repeat' first|refine vs ?_|fail)
  exact⟨by omega,u',F',rfl,by omega,ek h aA (Nat.le_refl _),by rw[Ag htk];exact r',o'⟩
 ·(repeat' first|refine vs ?_|fail)
  exact⟨rfl,u,rfl,e1,G,by rw[show i=l.length by omega,List.take_length] at ru;exact ru,ou⟩
def iZ (t:Trail):Int:=cO dM t.spans
theorem Ed (t:Trail):0≤iZ t∧iZ t≤0+12 * (Sz.sz t:Nat):=by
 have h:=pK yX t.spans
 have h2:Sz.sz t=t.spans.length+szs t.spans:=rfl
 unfold iZ;omega
def held (l:List aM):Int:=cO iZ (allT l)
theorem al4 (l:List aM):0≤held l∧held l≤12 * (szs l:Nat):=by
 have h:=pK Ed (allT l)
 have:=uz l
 unfold held;omega
theorem UD (l:List Trail):0≤cO iZ l∧cO iZ l≤12 * (szs l:Nat):=by
 have h:=pK Ed l;omega
theorem abF {h:AH} {l:List aM} {v:AV} {F:List Nat} (hs:l.length+szs l≤67108864) (r:aj h v l F):aO Tryz.prog Ch [v] h (.int .i64 (held l)):=by
 refine reader (ac3 _) (by simp only[old]) ?_
 unfold Og
 refine aG (Ic hs r) ?_
 rintro w1 h1 ⟨e1,G1,q1,o1⟩
 have hall:=uz l
 refine bC q1 ?_
 refine aT (allT l).length (fun i vs h2=>vs=[.int .i64 (cO iZ ((allT l).take i)),.int .i64 (i:Int)]∧i≤(allT l).length∧Ext h1 h2) ⟨by simp[cO],Nat.zero_le _,Ext.refl _⟩ ?_
 rintro i vs h2 _ ⟨rfl,hi,e2⟩
 simp only[g0,g1]
 have hb:=UD ((allT l).take i)
 have hle:=iP (allT l) i
 refine br (fun hlt=>?_) (fun hge=>?_)
 ·obtain⟨x,hx,-,htk⟩:=aQ (show i < (allT l).length by omega)
  have hm:=bf (List.mem_of_getElem? hx)
  have hxb:=Ed x
  refine vs ?_
  refine bX q1 hx rfl ?_
  rintro b o _ Fi a ⟨v0,rfl,r0⟩ _
  (repeat' first|refine vs ?_|((with_reducible refine ay vT ?_);refine aK (Pp (by omega) ah) ?_)|fail)
  refine jB (by unfold iZ at *;omega) (by unfold iZ at *;omega) ?_
  (repeat' first|refine vs ?_|fail)
  exact⟨by omega,by rw[nE _ htk];rfl,by omega,aA⟩
 ·(repeat' first|refine vs ?_|fail)
  refine pi ?_ (e1.trans e2)
  rw[show i=(allT l).length by omega,List.take_length];rfl
theorem abg {h:AH} {l:List aM} {v:AV} {F:List Nat} (hs:l.length+szs l≤67108864) (r:aj h v l F):aO Tryz.prog BK [v] h (.int .i64 (held l)):=by
 refine reader (acg _) (by simp only[old]) ?_
 unfold NC
 have hsm:=r.small
 refine aT l.length (fun i vs h2=>∃ z,vs=[.int .i64 (held (l.take i)),.int .i64 (i:Int),z]∧i≤l.length∧Ext h h2) ⟨_,rfl,Nat.zero_le _,Ext.refl _⟩ ?_
 rintro i vs h2 _ ⟨z,rfl,hi,e2⟩
 simp only[g0,g1]
 have hb:=al4 (l.take i)
 have hle:=iP l i
 refine bC r ?_
 refine br (fun hlt=>?_) (fun hge=>?_)
 ·obtain⟨x,hx,-,htk⟩:=aQ (show i < l.length by omega)
  have hm:=bf (List.mem_of_getElem? hx)
  have hx2:Sz.sz x=x.l.length+szs x.l:=rfl
  have hhs:held (l.take (i+1))=held (l.take i)+cO iZ x.l:=by unfold held;rw[Ag htk,EF]
  refine dz ?_
  have hsx:x.l.length < 281474976710656:=by omega
  refine aT x.l.length (fun j vs h3=>vs=[.int .i64 (held (l.take i)+cO iZ (x.l.take j)),.int .i64 (j:Int)]∧j≤x.l.length∧Ext h h3) ⟨by simp[cO],Nat.zero_le _,e2⟩ ?_
  rintro j vs h3 _ ⟨rfl,hj,e3⟩
  simp only[g0,g1]
  have hb2:=UD (x.l.take j)
  have hle2:=iP x.l j
  refine bX r hx rfl ?_
  rintro b o _ Fi a ⟨v0,rfl,r0⟩ _
  refine vs ?_
  refine br (fun hlt2=>?_) (fun lX=>?_)
  ·obtain⟨y,hy,-,mU⟩:=aQ (show j < x.l.length by omega)
   have hm2:=bf (List.mem_of_getElem? hy)
   have hyb:=Ed y
   (repeat' first|refine vs ?_|((with_reducible refine ay vM ?_);refine aK (Pf (by omega) ah) ?_)|((with_reducible refine aP ?_);((refine ix ?_);rintro _ _ _ _ _ ⟨_,rfl,_⟩ _))|fail)
   refine jB (by unfold iZ at *;omega) (by unfold iZ at *;omega) ?_
   (repeat' first|refine vs ?_|fail)
   exact⟨by omega,by rw[nE _ mU,Int.add_assoc];rfl,by omega,aA⟩
  ·(repeat' first|refine vs ?_|fail)
   exact⟨by omega,_,by rw[hhs,show j=x.l.length by omega,List.take_length];rfl,by omega,aA⟩
 ·(repeat' first|refine vs ?_|fail)
  refine pi ?_ aA
  rw[show i=l.length by omega,List.take_length]
end Go.Proofs.YtekfdoknfcedpaaGreat
end
section
set_option linter.unusedSimpArgs false
set_option linter.unusedVariables false
set_option maxHeartbeats 1000000
namespace Go.Proofs.YtekfdoknfcedpaaGreat
open Go Go.Ab
section
def Oh (x0 x1:AV):Prog:=.op (.alloc [.int .i64 0,.int .i64 0,.int .i64 0,.au]) fun a=>Ln 0 x0 fun b=>Bn .eql b (.int .i64 0) fun b=>.ite b (.op (.build [.int .i64 0,.int .i64 0,.int .i64 0,.au] []) fun b=>.op (.st 4 a b) fun _=>.fin [.cn 4 a,.val (.bool false)]) (Ln 0 x0 fun b=>Cl iY [x1,b] fun b=>Ix 2 x0 b fun b=>Ld 2 b fun b=>.op (.alloc [.int .i64 0,.au]) fun c=>.op (.st 2 c b) fun _=>Lg 1 c fun b=>Cl nC [b,x1] fun b=>Bn .lss b (.int .i64 0) fun d=>.ite d (.op (.build [.int .i64 0,.int .i64 0,.int .i64 0,.au] []) fun b=>.op (.st 4 a b) fun _=>.fin [.cn 4 a,.val (.bool false)]) (Lg 1 c fun c=>Ix 4 c b fun b=>Ld 4 b fun b=>Cl yJ [b] fun b=>.op (.st 4 a b) fun _=>.fin [.cn 4 a,.val (.bool true)]))
theorem ac4 (x0 x1:AV):CC Tryz.prog Iy [x0,x1] (Oh x0 x1):=cc Tryz.func128
def ND (x0 x1:AV):Prog:=.op (.alloc [.int .i64 0,.int .i64 0,.int .i64 0,.au]) fun a=>Ln 0 x0 fun b=>Bn .eql b (.int .i64 0) fun b=>.ite b (.op (.build [.int .i64 0,.int .i64 0,.int .i64 0,.au] []) fun b=>.op (.st 4 a b) fun _=>.fin [.cn 4 a,.val (.bool false)]) (Ln 0 x0 fun b=>Cl eU [x1,b] fun b=>Ix 2 x0 b fun b=>Ld 2 b fun b=>.op (.alloc [.int .i64 0,.au]) fun c=>.op (.st 2 c b) fun _=>Lg 1 c fun b=>Cl vJ [b,x1] fun b=>Bn .lss b (.int .i64 0) fun d=>.ite d (.op (.build [.int .i64 0,.int .i64 0,.int .i64 0,.au] []) fun b=>.op (.st 4 a b) fun _=>.fin [.cn 4 a,.val (.bool false)]) (Lg 1 c fun c=>Ix 4 c b fun b=>Ld 4 b fun b=>Cl sM [b] fun b=>.op (.st 4 a b) fun _=>.fin [.cn 4 a,.val (.bool true)]))
theorem ach (x0 x1:AV):CC Tryz.prog BL [x0,x1] (ND x0 x1):=cc Tryz.func185
def Sd (x0 x1:AV):Prog:=.op (.box x0) fun a=>.op (.box x1) fun b=>Lg 2 a fun c=>Lg 2 b fun d=>Bn .lss c d fun c=>Gf c false 2 a fun d=>Gf c false 2 b fun e=>.gop c false (.bin 0 .eql d e) fun d=>.gop c false (.mv d) fun d=>Gf d true 1 a fun a=>Gf d true 1 b fun b=>.gop d true (.bin 0 .lss a b) fun a=>.gop c false (.pick d a (.bool false)) fun a=>Pk c (.bool true) a fun a=>.fin [.val a]
theorem aiu (x0 x1:AV):CC Tryz.prog El [x0,x1] (Sd x0 x1):=cc Tryz.func158
def R5 (x0 x1:AV):Prog:=.op (.box x0) fun a=>.op (.box x1) fun b=>Lg 2 a fun c=>Lg 2 b fun d=>Bn .lss c d fun c=>Gf c false 2 a fun d=>Gf c false 2 b fun e=>.gop c false (.bin 0 .eql d e) fun d=>.gop c false (.mv d) fun d=>Gf d true 1 a fun a=>Gf d true 1 b fun b=>.gop d true (.bin 0 .lss a b) fun a=>.gop c false (.pick d a (.bool false)) fun a=>Pk c (.bool true) a fun a=>.fin [.val a]
theorem ain (x0 x1:AV):CC Tryz.prog Ei [x0,x1] (R5 x0 x1):=cc Tryz.func298
def O1 (x0:AV):Prog:=.op (.alloc [.int .i64 0,.int .i64 0,.int .i64 0,.au]) fun a=>Cl yK [x0] fun b=>Ln 0 b fun c=>Bn .eql c (.int .i64 0) fun c=>.ite c (.op (.build [.int .i64 0,.int .i64 0,.int .i64 0,.au] []) fun b=>.op (.st 4 a b) fun _=>.fin [.cn 4 a,.val (.bool false)]) (Ix 4 b (.int .i64 0) fun c=>Ld 4 c fun c=>.op (.alloc [.int .i64 0,.int .i64 0,.int .i64 0,.au]) fun d=>.op (.st 4 d c) fun _=>Ln 0 b fun c=>.loop [.int .i64 0] (fun a=>Bn .lss (g a 0) c fun c=>.ite c (Ix 4 b (g a 0) fun b=>Ld 4 b fun b=>.op (.alloc [.int .i64 0,.int .i64 0,.int .i64 0,.au]) fun c=>.op (.st 4 c b) fun _=>Ld 4 c fun b=>Ld 4 d fun e=>Cl El [b,e] fun b=>.scope (.ite b (Ld 4 c fun a=>.op (.st 4 d a) fun _=>.leaf 0 []) (.leaf 0 [])) (fun _=>Bn .add (g a 0) (.int .i64 1) fun a=>.leaf 0 [a]) fun a b=>ak a 1 (.leaf 1 b) .bad) (.leaf 2 [g a 0])) fun b c=>ak b 1 (.leaf 1 c) (ak b 2 (Ld 4 d fun b=>.op (.st 4 a b) fun _=>.fin [.cn 4 a,.val (.bool true)]) .bad))
theorem aes (x0:AV):CC Tryz.prog I6 [x0] (O1 x0):=cc Tryz.func75 [2,5,17,18,19] (fun _=>[])
def Ow (x0:AV):Prog:=.op (.alloc [.int .i64 0,.int .i64 0,.int .i64 0,.au]) fun a=>.op (.build [.int .i64 0,.int .i64 0,.int .i64 0,.au] []) fun b=>.op (.alloc [.int .i64 0,.int .i64 0,.int .i64 0,.au]) fun c=>.op (.st 4 c b) fun _=>.loop [.bool false,.int .i64 0,.tup []] (fun a=>Ln 0 x0 fun b=>Bn .lss (g a 1) b fun b=>.ite b (.loop [g a 0,.int .i64 0] (fun b=>Ix 2 x0 (g a 1) fun d=>Lg 1 d fun d=>Ln 0 d fun d=>Bn .lss (g b 1) d fun d=>.ite d (.op (.una .not (g b 0)) fun d=>.gop d false (.mv x0) fun e=>.gop d false (.mv (g a 1)) fun f=>.gop d false (.idx 2 e f) fun e=>Gf d false 1 e fun e=>.gop d false (.mv (g b 1)) fun f=>.gop d false (.idx 4 e f) fun e=>.gop d false (.ldn 4 e) fun e=>.gop d false (.ldn 4 c) fun f=>.gop d false (.call Ei [e,f]) fun e=>Pk d (.bool true) e fun d=>.scope (.ite d (Ix 2 x0 (g a 1) fun a=>Lg 1 a fun a=>Ix 4 a (g b 1) fun a=>Ld 4 a fun a=>.op (.st 4 c a) fun _=>.leaf 0 [.bool true]) (.leaf 0 [g b 0])) (fun a=>Bn .add (g b 1) (.int .i64 1) fun b=>.leaf 0 [g a 0,b]) fun a b=>ak a 1 (.leaf 1 b) .bad) (.leaf 4 [g b 0,g b 1])) fun b c=>ak b 1 (.leaf 1 c) (ak b 4 (Bn .add (g a 1) (.int .i64 1) fun a=>.leaf 0 [g c 0,a,g c 1]) .bad)) (.leaf 2 [g a 0,g a 1,g a 2])) fun b d=>ak b 1 (.leaf 1 d) (ak b 2 (Ld 4 c fun b=>Cl sM [b] fun b=>.op (.st 4 a b) fun _=>.fin [.cn 4 a,.val (g d 0)]) .bad)
theorem adU (x0:AV):CC Tryz.prog IQ [x0] (Ow x0):=cc Tryz.func236 [0,2,4,5,6,7] (fun r=>if r=9 then[(0,[]),(1,[]),(2,[]),(3,[]),(4,[]),(5,[]),(6,[]),(7,[]),(8,[]),(9,[]),(10,[]),(11,[]),(12,[]),(13,[])] else[])
end
theorem uI {α:Type} (p:α→Bool) (xs:List α):idx p xs= -1∨(0≤idx p xs∧(idx p xs).toNat < xs.length):=by
 rcases wD p xs with⟨e,-⟩|⟨i,x,e,hx,-,-⟩
 ·exact .inl e
 ·have:=(List.getElem?_eq_some_iff.1 hx).1
  right;omega
def ji:Trail:=⟨0,0,0,[]⟩
theorem aj0:Sz.sz ji≤67108864:=by decide
def rR (α:Type) [Cel α] (h:AH) (x:α) (b:Bool):AV→AH→Prop:=fun u h'=>Ext h h'∧∃ cs F,u= .tup [.agg cs,.bool b]∧Cel.rep h' x cs F∧Own h.n h' F
def qO (x:aM) (id:Int):Option Trail:=if idx (isId id) x.l < 0 then none else x.l[(idx (isId id) x.l).toNat]?
def fu (l:List aM) (id:Int):Option Trail:=match l[(stripe id l.length).toNat]? with
 |none=>none
 |some x=>qO x id
def dx (l:List aM) (id:Int):Trail:=(fu l id).getD ji
def fF (l:List aM) (id:Int):Bool:=(fu l id).isSome
theorem pW {l:List aM} {id:Int} (h:fu l id=none):dx l id=ji∧fF l id=false:=by simp[dx,fF,h]
theorem pV {l:List aM} {id:Int} {t:Trail} (h:fu l id=some t):dx l id=t∧fF l id=true:=by simp[dx,fF,h]
theorem zo {h:AH}:Cel.rep h ji [.int .i64 0,.int .i64 0,.int .i64 0,.au] []:=⟨.au,rfl,aj.au⟩
theorem abG {h:AH} {l:List aM} {v:AV} {F:List Nat} {id:Int} (hs:l.length+szs l≤67108864) (r:aj h v l F):bE Tryz.prog Iy [v,.int .i64 id] h (rR Trail h (dx l id) (fF l id)):=by
 refine ac4 _ _ ?_
 unfold Oh
 have hsm:=r.small
 have hst:l.length=0∨(0≤stripe id l.length∧stripe id l.length < l.length):=by
  by_cases e:l.length=0
  ·exact .inl e
  ·exact .inr (iG (by omega))
 (repeat' first|refine vs ?_|(refine br ?_ ?_<;>first|exact bx|intro _)|((with_reducible refine ay iY ?_);refine aK qx ?_)|((with_reducible refine ay nC ?_);refine aK (yN ah) ?_)|((with_reducible refine aP ?_);(((refine kZ ?_;intro _ _));rintro _ _ _ _ _ ⟨_,rfl,_⟩ _))|fail)
 ·rename_i e
  have:fu l id=none:=by unfold fu;rw[List.getElem?_eq_none (by omega)]
  rw[(pW this).1,(pW this).2]
  exact⟨rfl,_,rfl,aA,_,[],rfl,zo,Own.nil⟩
 ·rename_i x hx b o Fi a w hrep hsub hlt
  have:fu l id=none:=by unfold fu;rw[hx];simp only[qO];rw[if_pos hlt]
  rw[(pW this).1,(pW this).2]
  exact⟨rfl,_,rfl,aA,_,[],rfl,zo,Own.nil⟩
 ·rename_i x hx b o Fi a w hrep hsub hlt
  have hb:=uI (isId id) x.l
  have hm:=bf (List.mem_of_getElem? hx)
  have hx2:Sz.sz x=x.l.length+szs x.l:=rfl
  obtain⟨t,ht,-,-⟩:=aQ (show(idx (isId id) x.l).toNat < x.l.length by omega)
  have hm2:=bf (List.mem_of_getElem? ht)
  have:fu l id=some t:=by unfold fu;rw[hx];simp only[qO];rw[if_neg hlt];exact ht
  rw[(pV this).1,(pV this).2]
  (repeat' first|refine vs ?_|((with_reducible refine ay yJ ?_);(refine aG (Nn t (by omega) _ _ _ ⟨_,rfl,ah⟩) ?_;rintro _ h2 ⟨e2,_,G2,rfl,⟨w2,rfl,q2⟩,o2⟩;have n2:=e2.1;(try simp only[aD,aN] at n2)))|((with_reducible refine aP ?_);((refine ixi ?_);rintro _ _ _ _ _ ⟨_,rfl,_⟩ _))|fail)
  exact⟨rfl,_,rfl,aA,_,_,rfl,⟨_,rfl,ah⟩,aZ⟩
theorem Ni {h:AH} {l:List aM} {v:AV} {F:List Nat} {id:Int} (hs:l.length+szs l≤67108864) (r:aj h v l F):bE Tryz.prog BL [v,.int .i64 id] h (rR Trail h (dx l id) (fF l id)):=by
 refine ach _ _ ?_
 unfold ND
 have hsm:=r.small
 have hst:l.length=0∨(0≤stripe id l.length∧stripe id l.length < l.length):=by
  by_cases e:l.length=0
  ·exact .inl e
  ·exact .inr (iG (by omega))
 (repeat' first|refine vs ?_|(refine br ?_ ?_<;>first|exact bx|intro _)|((with_reducible refine ay eU ?_);refine aK iq ?_)|((with_reducible refine ay vJ ?_);refine aK (Ja ah) ?_)|((with_reducible refine aP ?_);(((refine kZ ?_;intro _ _));rintro _ _ _ _ _ ⟨_,rfl,_⟩ _))|fail)
 ·rename_i e
  have:fu l id=none:=by unfold fu;rw[List.getElem?_eq_none (by omega)]
  rw[(pW this).1,(pW this).2]
  exact⟨rfl,_,rfl,aA,_,[],rfl,zo,Own.nil⟩
 ·rename_i x hx b o Fi a w hrep hsub hlt
  have:fu l id=none:=by unfold fu;rw[hx];simp only[qO];rw[if_pos hlt]
  rw[(pW this).1,(pW this).2]
  exact⟨rfl,_,rfl,aA,_,[],rfl,zo,Own.nil⟩
 ·rename_i x hx b o Fi a w hrep hsub hlt
  have hb:=uI (isId id) x.l
  have hm:=bf (List.mem_of_getElem? hx)
  have hx2:Sz.sz x=x.l.length+szs x.l:=rfl
  obtain⟨t,ht,-,-⟩:=aQ (show(idx (isId id) x.l).toNat < x.l.length by omega)
  have hm2:=bf (List.mem_of_getElem? ht)
  have:fu l id=some t:=by unfold fu;rw[hx];simp only[qO];rw[if_neg hlt];exact ht
  rw[(pV this).1,(pV this).2]
  (repeat' first|refine vs ?_|((with_reducible refine ay sM ?_);(refine aG (I8 t (by omega) _ _ _ ⟨_,rfl,ah⟩) ?_;rintro _ h2 ⟨e2,_,G2,rfl,⟨w2,rfl,q2⟩,o2⟩;have n2:=e2.1;(try simp only[aD,aN] at n2)))|((with_reducible refine aP ?_);((refine ixi ?_);rintro _ _ _ _ _ ⟨_,rfl,_⟩ _))|fail)
  exact⟨rfl,_,rfl,aA,_,_,rfl,⟨_,rfl,ah⟩,aZ⟩
def older (a b:Trail):Prop:=a.first < b.first∨(a.first=b.first∧a.stamp < b.stamp)
theorem aib {h:AH} {a b:Trail} {v v':AV}:aO Tryz.prog El [.agg (a.cs v),.agg (b.cs v')] h (.bool (bp (older a b))):=by
 refine reader (aiu _ _) (by simp only[old]) ?_
 unfold Sd
 (repeat' first|refine vs ?_|(refine br ?_ ?_<;>first|exact bx|intro _)|fail)
 all_goals first
  |(refine pt ?_;unfold older;omega)
  |(refine pf ?_;unfold older;omega)
theorem ah7 {h:AH} {a b:Trail} {v v':AV}:aO Tryz.prog Ei [.agg (a.cs v),.agg (b.cs v')] h (.bool (bp (older a b))):=by
 refine reader (ain _ _) (by simp only[old]) ?_
 unfold R5
 (repeat' first|refine vs ?_|(refine br ?_ ?_<;>first|exact bx|intro _)|fail)
 all_goals first
  |(refine pt ?_;unfold older;omega)
  |(refine pf ?_;unfold older;omega)
noncomputable def gQ (b:Option Trail) (t:Trail):Option Trail:=match b with
 |none=>some t
 |some b=>if bp (older t b)=true then some t else some b
noncomputable def oldest (l:List Trail):Option Trail:=l.foldl gQ none
theorem WC {b t:Trail} (h:older t b):gQ (some b) t=some t:=by simp[gQ,lu h]
theorem Lu {b t:Trail} (h: ¬ older t b):gQ (some b) t=some b:=by simp[gQ,kI h]
theorem amy {a:Trail} {l:List Trail}:(a::l).foldl gQ (some a)=oldest (a::l):=by
 have: ¬ older a a:=by unfold older;omega
 simp only[List.foldl_cons,Lu this,oldest]
 rfl
theorem Ac {l:List Trail} {i:Nat} {x:Trail} {z:Option Trail} (ht:l.take (i+1)=l.take i++[x]):(l.take (i+1)).foldl gQ z=gQ ((l.take i).foldl gQ z) x:=by rw[ht,List.foldl_append];rfl
theorem adB {h:AH} {l:List aM} {v:AV} {F:List Nat} (hs:l.length+szs l≤67108864) (r:aj h v l F):bE Tryz.prog I6 [v] h (rR Trail h ((oldest (allT l)).getD ji) (oldest (allT l)).isSome):=by
 refine aes _ ?_
 unfold O1
 refine vs ?_
 refine aG (Ic hs ah) ?_
 rintro w1 h1 ⟨e1,G1,q1,o1⟩
 have n1:=e1.1
 simp only[aD] at n1 o1
 have hall:=uz l
 refine bC q1 ?_
 refine br (fun h0=>?_) (fun h0=>?_)
 ·have:allT l=[]:=List.length_eq_zero_iff.1 (by omega)
  (repeat' first|refine vs ?_|fail)
  rw[this]
  exact⟨rfl,_,rfl,aA,_,[],rfl,zo,Own.nil⟩
 ·obtain⟨a0,ha0,hd0,-⟩:=aQ (show 0 < (allT l).length by omega)
  refine vs ?_
  refine Vq (i:=0) q1 o1 ha0 rfl ?_
  rintro b o _ Fi a ⟨v0,rfl,r0⟩ _ oi
  (repeat' first|refine vs ?_|fail)
  refine aT (allT l).length (fun i vs h2=>∃ t vb Fb,vs=[.int .i64 (i:Int)]∧i≤(allT l).length∧Ext h1 h2∧Bk h2 h1.n [.int .i64 t.id,.int .i64 t.stamp,.int .i64 t.first,vb] 0∧aj h1 vb t.spans Fb∧Own (h.n+1) h1 Fb∧((allT l).take i).foldl gQ (some a0)=some t) ⟨a0,v0,Fi,rfl,Nat.zero_le _,aA,aX,r0,oi,rfl⟩ ?_
  rintro i vs h2 _ ⟨t,vb,Fb,rfl,hi,e2,bk,rb,ob,hf⟩
  have n2:=e2.1
  have nb:=bk.1
  simp only[g0]
  refine br (fun hlt=>?_) (fun hge=>?_)
  ·obtain⟨x,hx,-,htk⟩:=aQ (show i < (allT l).length by omega)
   refine vs ?_
   refine Vq q1 o1 hx rfl ?_
   rintro b' o' _ Fi' a' ⟨v',rfl,r'⟩ _ oi'
   have rr':=lH e2 r'
   (repeat' first|refine vs ?_|((with_reducible refine ay El ?_);(refine aU aib ?_ ?_<;>intro hn))|fail)
   ·exact⟨by omega,x,v',Fi',rfl,by omega,aA,aX,r',oi',by rw[Ac htk,hf,WC hn]⟩
   ·exact⟨by omega,t,vb,Fb,rfl,by omega,aA,aX,rb,ob,by rw[Ac htk,hf,Lu hn]⟩
  ·rw[show i=(allT l).length by omega,List.take_length] at hf
   have hA:allT l=a0::(allT l).drop 1:=by simpa using hd0
   have hold:oldest (allT l)=some t:=by rw[←hf];(conv=>lhs;rw[hA]);rw[←amy,←hA]
   rw[hold]
   (repeat' first|refine vs ?_|fail)
   exact⟨rfl,_,rfl,aA,_,_,rfl,⟨_,rfl,ah⟩,aZ⟩
theorem ada {h:AH} {l:List aM} {v:AV} {F:List Nat} (hs:l.length+szs l≤67108864) (r:aj h v l F):bE Tryz.prog IQ [v] h (rR Trail h ((oldest (allT l)).getD ji) (oldest (allT l)).isSome):=by
 refine adU _ ?_
 unfold Ow
 have hsm:=r.small
 (repeat' first|refine vs ?_|fail)
 refine aT l.length (fun i vs h2=>∃ z vb Fb,vs=[.bool (oldest (allT (l.take i))).isSome,.int .i64 (i:Int),z]∧i≤l.length∧Ext (h.push ⟨[.int .i64 0,.int .i64 0,.int .i64 0,.au],0,0⟩) h2∧Bk h2 (h.n+1) [.int .i64 ((oldest (allT (l.take i))).getD ji).id,.int .i64 ((oldest (allT (l.take i))).getD ji).stamp,.int .i64 ((oldest (allT (l.take i))).getD ji).first,vb] 0∧aj h vb ((oldest (allT (l.take i))).getD ji).spans Fb∧Sz.sz ((oldest (allT (l.take i))).getD ji)≤67108864) ⟨_,.au,[],rfl,Nat.zero_le _,aA,(show Bk _ _ [.int .i64 0,.int .i64 0,.int .i64 0,.au] 0 from aX),aj.au,aj0⟩ ?_
 rintro i vs h2 _ ⟨z,vb,Fb,rfl,hi,e2,bk,rb,hz⟩
 have nb:=bk.1
 have n2:=e2.1
 simp only[aD] at n2
 simp only[g0,g1]
 refine bC r ?_
 refine br (fun hlt=>?_) (fun hge=>?_)
 ·obtain⟨x,hx,-,htk⟩:=aQ (show i < l.length by omega)
  have hm:=bf (List.mem_of_getElem? hx)
  have hx2:Sz.sz x=x.l.length+szs x.l:=rfl
  have hss:oldest (allT (l.take (i+1)))=x.l.foldl gQ (oldest (allT (l.take i))):=by rw[Ag htk];simp[oldest,List.foldl_append]
  refine dz ?_
  refine aT x.l.length (fun j vs h3=>∃ vb Fb,vs=[.bool ((x.l.take j).foldl gQ (oldest (allT (l.take i)))).isSome,.int .i64 (j:Int)]∧j≤x.l.length∧Ext (h.push ⟨[.int .i64 0,.int .i64 0,.int .i64 0,.au],0,0⟩) h3∧Bk h3 (h.n+1) [.int .i64 (((x.l.take j).foldl gQ (oldest (allT (l.take i)))).getD ji).id,.int .i64 (((x.l.take j).foldl gQ (oldest (allT (l.take i)))).getD ji).stamp,.int .i64 (((x.l.take j).foldl gQ (oldest (allT (l.take i)))).getD ji).first,vb] 0∧aj h vb (((x.l.take j).foldl gQ (oldest (allT (l.take i)))).getD ji).spans Fb∧Sz.sz (((x.l.take j).foldl gQ (oldest (allT (l.take i)))).getD ji)≤67108864) ⟨vb,Fb,rfl,Nat.zero_le _,e2,bk,rb,hz⟩ ?_
  rintro j vs h3 _ ⟨vb,Fb,rfl,hj,e3,bk,rb,hz⟩
  have nb3:=bk.1
  have n3:=e3.1
  simp only[aD] at n3
  simp only[g0,g1]
  refine bX r hx rfl ?_
  rintro b o _ Fi a ⟨v0,rfl,r0⟩ _
  refine vs ?_
  refine br (fun hlt2=>?_) (fun lX=>?_)
  ·obtain⟨y,hy,-,mU⟩:=aQ (show j < x.l.length by omega)
   have hm2:=bf (List.mem_of_getElem? hy)
   cases AJ:(x.l.take j).foldl gQ (oldest (allT (l.take i))) with
   |none=>
    have hnx:(x.l.take (j+1)).foldl gQ (oldest (allT (l.take i)))=some y:=by rw[Ac mU,AJ];rfl
    simp only[AJ,Option.isSome] at bk rb hz ⊢
    (repeat' first|refine vs ?_|((with_reducible refine aP ?_);((refine ix ?_);rintro _ _ _ _ _ ⟨_,rfl,_⟩ _))|fail)
    rename_i w' q' _ _
    exact⟨by omega,w',_,by rw[hnx];rfl,by omega,aA,by rw[hnx];exact(show Bk _ _ [.int .i64 y.id,.int .i64 y.stamp,.int .i64 y.first,w'] 0 from aX),by rw[hnx];exact q',by rw[hnx];simp only[Option.getD];omega⟩
   |some t=>
    simp only[AJ,Option.isSome,Option.getD] at bk rb hz ⊢
    (repeat' first|refine vs ?_|((with_reducible refine ay Ei ?_);(refine aU ah7 ?_ ?_<;>intro hn))|((with_reducible refine aP ?_);((refine ix ?_);rintro _ _ _ _ _ ⟨_,rfl,_⟩ _))|fail)
    ·have hnx:(x.l.take (j+1)).foldl gQ (oldest (allT (l.take i)))=some y:=by rw[Ac mU,AJ,WC hn]
     rename_i w' q' _ _
     exact⟨by omega,w',_,by rw[hnx];rfl,by omega,aA,by rw[hnx];exact(show Bk _ _ [.int .i64 y.id,.int .i64 y.stamp,.int .i64 y.first,w'] 0 from aX),by rw[hnx];exact q',by rw[hnx];simp only[Option.getD];omega⟩
    ·have hnx:(x.l.take (j+1)).foldl gQ (oldest (allT (l.take i)))=some t:=by rw[Ac mU,AJ,Lu hn]
     exact⟨by omega,vb,_,by rw[hnx];rfl,by omega,aA,by rw[hnx];exact(show Bk _ _ [.int .i64 t.id,.int .i64 t.stamp,.int .i64 t.first,vb] 0 from aX),by rw[hnx];exact rb,by rw[hnx];simp only[Option.getD];omega⟩
  ·have e:j=x.l.length:=by omega
   rw[e,List.take_length,←hss] at bk rb hz
   (repeat' first|refine vs ?_|fail)
   exact⟨by omega,_,_,_,by rw[hss,e,List.take_length];rfl,by omega,aA,bk,rb,hz⟩
 ·have e:i=l.length:=by omega
  rw[e,List.take_length] at bk rb hz
  rw[e,List.take_length]
  (repeat' first|refine vs ?_|((with_reducible refine ay sM ?_);(refine aG (I8 _ hz _ _ _ ⟨_,rfl,ah⟩) ?_;rintro _ h4 ⟨e4,_,G4,rfl,⟨w4,rfl,q4⟩,o4⟩;have n4:=e4.1;(try simp only[aD,aN] at n4)))|fail)
  exact⟨rfl,_,rfl,aA,_,_,rfl,⟨_,rfl,ah⟩,aZ⟩
end Go.Proofs.YtekfdoknfcedpaaGreat
end
section
set_option linter.unusedSimpArgs false
set_option linter.unusedVariables false
set_option maxHeartbeats 1000000
namespace Go.Proofs.YtekfdoknfcedpaaGreat
open Go Go.Ab
section
def ZV (x0 x1 x2:AV):Prog:=Ln 0 x0 fun a=>.op (.xW x0 (some x1) (some x2) a) fun _=>Bn .eql x1 x2 fun a=>.ite a (.fin [.val x0]) (Ln 0 x0 fun a=>.op (.slc 4 x0 none (some x1) none) fun b=>.op (.slc 4 x0 (some x2) none none) fun c=>.op (.app 4 48 b c) fun b=>Ln 0 b fun c=>.op (.slc 4 b (some c) (some a) none) fun a=>.op (.clr 4 [.int .i64 0,.int .i64 0,.int .i64 0,.au] a) fun _=>.fin [.val b])
theorem ZX (x0 x1 x2:AV):CC Tryz.prog Hl [x0,x1,x2] (ZV x0 x1 x2):=cc Tryz.func291 [] (fun r=>if r=5 then[(0,[]),(1,[]),(2,[]),(3,[]),(4,[]),(5,[]),(6,[]),(7,[])] else[])
def Oi (x0 x1:AV):Prog:=Cl Bq [x0] fun a=>Ln 0 x0 fun b=>Bn .gtr b (.int .i64 0) fun b=>.scope (.ite b (Ln 0 x0 fun b=>Cl iY [x1,b] fun b=>Ix 2 a b fun a=>Lf 1 a fun b=>Cl nC [b,x1] fun b=>Bn .geq b (.int .i64 0) fun c=>.scope (.ite c (Lf 1 a fun c=>Bn .add b (.int .i64 1) fun d=>Cl Hl [c,b,d] fun b=>Sf 1 a b fun _=>.leaf 0 []) (.leaf 0 [])) (fun _=>.leaf 0 []) fun a b=>ak a 1 (.leaf 1 b) .bad) (.leaf 0 [])) (fun _=>.fin [.val a]) fun a b=>ak a 1 (.leaf 1 b) .bad
theorem ac5 (x0 x1:AV):CC Tryz.prog Iz [x0,x1] (Oi x0 x1):=cc Tryz.func221 [5] (fun _=>[])
def NG (x0 x1:AV):Prog:=Cl CY [x0] fun a=>Ln 0 x0 fun b=>Bn .eql b (.int .i64 0) fun b=>.ite b (.fin [.val a]) (Ln 0 x0 fun b=>Cl eU [x1,b] fun b=>Ix 2 x0 b fun c=>Lg 1 c fun c=>Cl vJ [c,x1] fun c=>Bn .geq c (.int .i64 0) fun d=>.scope (.ite d (Ix 2 a b fun d=>Lg 1 d fun d=>.op (.slc 4 d none (some c) none) fun d=>Ix 2 a b fun e=>Lg 1 e fun e=>Bn .add c (.int .i64 1) fun c=>.op (.slc 4 e (some c) none none) fun c=>.op (.app 4 48 d c) fun c=>Ix 2 a b fun a=>Sg 1 a c fun _=>.leaf 0 []) (.leaf 0 [])) (fun _=>.fin [.val a]) fun a b=>ak a 1 (.leaf 1 b) .bad)
theorem aci (x0 x1:AV):CC Tryz.prog Ih [x0,x1] (NG x0 x1):=cc Tryz.func263 [5] (fun r=>if r=7 then[(0,[]),(1,[]),(2,[]),(3,[]),(4,[]),(5,[]),(6,[]),(7,[]),(8,[]),(9,[]),(10,[]),(11,[]),(12,[]),(13,[]),(14,[]),(15,[]),(16,[]),(17,[]),(18,[]),(19,[]),(20,[])] else[])
end
theorem ZT {h:AH} {xs:List Trail} {v:AV} {F:List Nat} {i n:Nat} (r:aj h v xs F) (o:Own n h F) (hi:i < xs.length):
  bE Tryz.prog Hl [v,.int .i64 (i:Int),.int .i64 ((i+1:Nat):Int)] h fun u h'=>Kp h h' F∧∃ F',aj h' u (xs.eraseIdx i) F'∧Own n h' F'∧∀ c∈F',c∈F:=
 ZX _ _ _ (Prog.jd _ (akz (w:=4) rfl rfl r o hi) fun _ _ _ x=>x)
noncomputable def gL (l:List aM) (id:Int):List aM:=match l[(stripe id l.length).toNat]? with
 |none=>l
 |some x=>if idx (isId id) x.l < 0 then l else l.set (stripe id l.length).toNat {x with l:=x.l.eraseIdx (idx (isId id) x.l).toNat}
theorem TP {l:List aM} {id:Int} (h:l.length=0):gL l id=l:=by
 unfold gL;rw[List.getElem?_eq_none (by omega)]
theorem KU {l:List aM} {id:Int} {x:aM} (hx:l[(stripe id l.length).toNat]? =some x) (h:idx (isId id) x.l < 0):gL l id=l:=by
 unfold gL;rw[hx];simp only;rw[if_pos h]
theorem EN {l:List aM} {id:Int} {x:aM} (hx:l[(stripe id l.length).toNat]? =some x) (h: ¬ idx (isId id) x.l < 0):gL l id=l.set (stripe id l.length).toNat {x with l:=x.l.eraseIdx (idx (isId id) x.l).toNat}:=by
 unfold gL;rw[hx];simp only;rw[if_neg h]
section
variable{P:Program} {h:AH} {Q:Nat→List AV→AH→Prop} {k:AV→Prog}
theorem aS {b o:Nat} (hk:(k (.ptr b o)).awp P h Q):(Prog.op (.bO (.ptr b o)) k).awp P h Q:=hk
end
theorem UU {n:Nat} {h h':AH} {b:Nat} {F1 Fi Fi' F2:List Nat} (o:Own n h (b::(F1++(Fi++F2)))) (o':Own n h' Fi') (hs:∀ c∈Fi',c∈Fi) (hk:∀ c∈b::(F1++F2),(h'.get c).st=(h.get c).st):Own n h' (b::(F1++(Fi'++F2))):=by
 have hnd:=List.nodup_cons.1 o.1
 have mV:=List.nodup_append.1 hnd.2
 have og:=List.nodup_append.1 mV.2.1
 refine⟨List.nodup_cons.2 ⟨fun hc=>hnd.1 ?_,List.nodup_append.2 ⟨mV.1,List.nodup_append.2 ⟨o'.1,og.2.1,fun a ha c hc e=>og.2.2 a (hs a ha) c hc e⟩,fun a ha c hc e=>mV.2.2 a ha c ?_ e⟩⟩,fun c hc=>?_⟩
 ·simp only[List.mem_append] at hc ⊢
  rcases hc with hc|hc|hc
  ·exact .inl hc
  ·exact .inr (.inl (hs _ hc))
  ·exact .inr (.inr hc)
 ·rcases List.mem_append.1 hc with hc|hc
  ·exact List.mem_append_left _ (hs c hc)
  ·exact List.mem_append_right _ hc
 ·have hc2:c∈b::(F1++F2)∨c∈Fi':=by
   simp only[List.mem_cons,List.mem_append] at hc ⊢
   rcases hc with hc|hc|hc|hc
   ·exact .inl (.inl hc)
   ·exact .inl (.inr (.inl hc))
   ·exact .inr hc
   ·exact .inl (.inr (.inr hc))
  rcases hc2 with hc2|hc2
  ·have hm:c∈b::(F1++(Fi++F2)):=by
    simp only[List.mem_cons,List.mem_append] at hc2 ⊢
    rcases hc2 with hc|hc|hc
    ·exact .inl hc
    ·exact .inr (.inl hc)
    ·exact .inr (.inr (.inr hc))
   exact⟨(o.2 c hm).1,by rw[hk c hc2];exact(o.2 c hm).2⟩
  ·exact o'.2 c hc2
theorem abH {h:AH} {l:List aM} {v:AV} {F:List Nat} {id:Int} (hs:l.length+szs l≤67108864) (r:aj h v l F):bE Tryz.prog Iz [v,.int .i64 id] h (ng aM h (gL l id)):=by
 refine ac5 _ _ ?_
 unfold Oi
 have hsm:=r.small
 refine aG (MZ l hs v F h r) ?_
 rintro w1 h1 ⟨e1,G1,q1,o1⟩
 refine bC r ?_
 refine br (fun hgt=>?_) (fun hle=>?_)
 ·have hsb:=iG (t:=id) (n:=l.length) (by omega)
  obtain⟨x,hx,-,-⟩:=aQ (show(stripe id l.length).toNat < l.length by omega)
  have hm:=bf (List.mem_of_getElem? hx)
  have hx2:Sz.sz x=x.l.length+szs x.l:=rfl
  obtain⟨b,off,A,E,R,F1,Fi,F2,rfl,rfl,hb,hl,hes,hcs,hA,⟨vL,rfl,rL⟩,back⟩:=q1.zip hx
  have hmi:(h1.get b).st=0:=(o1.2 b (by simp)).2
  have hg:h1.get b=⟨A++(x.cs vL++R),2,0⟩:=by
   have:h1.get b=⟨(h1.get b).cells,(h1.get b).es,(h1.get b).st⟩:=rfl
   rw[this,hcs,hes,hmi];rfl
  have oL:Own h.n h1 Fi:=KR o1
  have at1:At h1 b (off+(stripe id l.length).toNat * 2) (x.cs vL):=MI (es:=2) (st:=0) hb hl hcs hA
  have hbn:b ∉ F1++(Fi++F2):=(List.nodup_cons.1 o1.1).1
  refine lJ (dz (bC r (aK qx (dY (by omega) (by omega) (aS ?_)))))
  (repeat' first|refine vs ?_|(refine br ?_ ?_<;>first|exact bx|intro _)|((with_reducible refine ay nC ?_);refine aK (yN ah) ?_)|fail)
  ·rename_i hge
   have hib:=uI (isId id) x.l
   obtain⟨i,hi⟩:∃ i:Nat,idx (isId id) x.l=i:=⟨(idx (isId id) x.l).toNat,by omega⟩
   rw[hi]
   refine aS ?_
   (repeat' first|refine vs ?_|fail)
   refine aG (ZT rL oL (by omega)) ?_
   rintro u h2 ⟨k2,F',r2,o2,hsub⟩
   have hb2:h2.get b=h1.get b:=k2.2 b hb fun hc=>hbn (by simp[hc])
   refine aS (lT (Ga (by rw[hb2];exact hg) hA r2.cell rfl bP ?_))
   (repeat' first|refine vs ?_|fail)
   have hd1:∀ c∈F1++F2,c ∉ Fi∧c≠b∧c < h1.n:=by
    have hnd:=List.nodup_append.1 (List.nodup_cons.1 o1.1).2
    have og:=List.nodup_append.1 hnd.2.1
    have hlt:=q1.lt
    intro c hc
    rcases List.mem_append.1 hc with hc'|hc'
    ·exact⟨fun hf=>hnd.2.2 c hc' c (List.mem_append_left _ hf) rfl,fun e=>hbn (e▸List.mem_append_left _ hc'),hlt c (by simp[hc'])⟩
    ·exact⟨fun hf=>og.2.2 c hf c hc' rfl,fun e=>hbn (e▸List.mem_append_right _ (List.mem_append_right _ hc')),hlt c (by simp[hc'])⟩
   have hbF:b ∉ F':=fun hc=>hbn (by simp[hsub b hc])
   refine⟨rfl,_,rfl,?_,b::(F1++(F'++F2)),?_,?_⟩
   ·refine Ext.upd (Kp.ext e1 k2 fun c hc=>(oL.2 c hc).1) (o1.2 b (by simp)).1 _
   ·rw[EN hx (by omega),show(idx (isId id) x.l).toNat=i by omega]
    refine back _ {x with l:=x.l.eraseIdx i} _ F' (by simp only[fT,if_true];rfl) (by simp only[fT,if_true];rfl) (by simp[live]) (by simpa using Nat.lt_of_lt_of_le hb k2.1) (fun c hc=>?_) ⟨u,rfl,?_⟩
    ·obtain⟨d1,d2,d3⟩:=hd1 c hc
     exact⟨by simp only[fT,d2,if_false];exact k2.2 c d3 d1,by simpa using Nat.lt_of_lt_of_le d3 k2.1⟩
    ·exact fQ r2 hbF
   ·refine UU o1 (o2.mono (Nat.le_refl _) fun c hc=>by have:c≠b:=fun e=>hbF (e▸hc);simp[this]) hsub fun c hc=>?_
    rcases List.mem_cons.1 hc with rfl|hc
    ·simp[hmi]
    ·obtain⟨d1,d2,d3⟩:=hd1 c hc
     simp only[fT,d2,if_false];rw[k2.2 c d3 d1]
  ·rename_i hlt
   exact⟨rfl,_,rfl,e1,_,by rw[KU hx (by omega)];exact q1,o1⟩
 ·(repeat' first|refine vs ?_|fail)
  exact⟨rfl,_,rfl,e1,_,by rw[TP (by omega)];exact q1,o1⟩
theorem abh {h:AH} {l:List aM} {v:AV} {F:List Nat} {id:Int} (hs:l.length+szs l≤67108864) (r:aj h v l F):bE Tryz.prog Ih [v,.int .i64 id] h (ng aM h (gL l id)):=by
 refine aci _ _ ?_
 unfold NG
 have hsm:=r.small
 refine aG (O9 l hs v F h r) ?_
 rintro w1 h1 ⟨e1,G1,q1,o1⟩
 refine bC r ?_
 refine br (fun h0=>?_) (fun h0=>?_)
 ·(repeat' first|refine vs ?_|fail)
  exact⟨rfl,_,rfl,e1,_,by rw[TP (by omega)];exact q1,o1⟩
 ·have hsb:=iG (t:=id) (n:=l.length) (by omega)
  obtain⟨x,hx,-,-⟩:=aQ (show(stripe id l.length).toNat < l.length by omega)
  have hm:=bf (List.mem_of_getElem? hx)
  have hx2:Sz.sz x=x.l.length+szs x.l:=rfl
  refine cu (bC r (aK iq (zW r (by omega) hx rfl ?_)))
  rintro b0 o0 _ Fi0 a0 ⟨v0,rfl,r0⟩ _
  refine vs ?_
  refine aK (Ja ah) ?_
  refine br (fun hge=>?_) (fun hlt=>?_)
  ·have hib:=uI (isId id) x.l
   obtain⟨i,hi⟩:∃ i:Nat,idx (isId id) x.l=i:=⟨(idx (isId id) x.l).toNat,by omega⟩
   have hil:i < x.l.length:=by omega
   rw[hi]
   obtain⟨b,off,A,E,R,F1,Fi,F2,rfl,rfl,hb,hl,hes,hcs,hA,⟨vL,rfl,rL⟩,back⟩:=q1.zip hx
   have hmi:(h1.get b).st=0:=(o1.2 b (by simp)).2
   have hg:h1.get b=⟨A++(x.cs vL++R),2,0⟩:=by
    have:h1.get b=⟨(h1.get b).cells,(h1.get b).es,(h1.get b).st⟩:=rfl
    rw[this,hcs,hes,hmi];rfl
   have oL:Own h.n h1 Fi:=KR o1
   have at1:At h1 b (off+(stripe id l.length).toNat * 2) (x.cs vL):=MI (es:=2) (st:=0) hb hl hcs hA
   have hbn:b ∉ F1++(Fi++F2):=(List.nodup_cons.1 o1.1).1
   obtain⟨bL,aoo,rfl,mL,esL,XG,-,-⟩:=rL.top oL (by omega)
   refine vs ?_
   refine dY (by omega) (by omega) ?_
   refine vs ?_
   refine Kw (by decide) esL mL XG (by omega) ?_
   refine dY (by omega) (by omega) ?_
   refine vs ?_
   refine zx (by decide) esL mL XG (by omega) ?_
   refine alg (α:=Trail) rL oL hil ?_
   intro h2 F' k2 r2 o2 hsub hn2
   have hb2:h2.get b=h1.get b:=k2.2 b hb fun hc=>hbn (by simp[hc])
   refine dY (by omega) (by omega) (lT (Ga (by rw[hb2];exact hg) hA r2.cell rfl bP ?_))
   (repeat' first|refine vs ?_|fail)
   have hd1:∀ c∈F1++F2,c ∉ Fi∧c≠b∧c < h1.n:=by
    have hnd:=List.nodup_append.1 (List.nodup_cons.1 o1.1).2
    have og:=List.nodup_append.1 hnd.2.1
    have hlt:=q1.lt
    intro c hc
    rcases List.mem_append.1 hc with hc'|hc'
    ·exact⟨fun hf=>hnd.2.2 c hc' c (List.mem_append_left _ hf) rfl,fun e=>hbn (e▸List.mem_append_left _ hc'),hlt c (by simp[hc'])⟩
    ·exact⟨fun hf=>og.2.2 c hf c hc' rfl,fun e=>hbn (e▸List.mem_append_right _ (List.mem_append_right _ hc')),hlt c (by simp[hc'])⟩
   have hbF:b ∉ F':=fun hc=>hbn (by simp[hsub b hc])
   refine⟨rfl,_,rfl,?_,b::(F1++(F'++F2)),?_,?_⟩
   ·refine Ext.upd (Kp.ext e1 k2 fun c hc=>(oL.2 c hc).1) (o1.2 b (by simp)).1 _
   ·rw[EN hx (by omega),show(idx (isId id) x.l).toNat=i by omega]
    refine back _ {x with l:=x.l.eraseIdx i} _ F' (by simp only[fT,if_true];rfl) (by simp only[fT,if_true];rfl) (by simp[live]) (by simpa using Nat.lt_of_lt_of_le hb k2.1) (fun c hc=>?_) ⟨_,rfl,?_⟩
    ·obtain⟨d1,d2,d3⟩:=hd1 c hc
     exact⟨by simp only[fT,d2,if_false];exact k2.2 c d3 d1,by simpa using Nat.lt_of_lt_of_le d3 k2.1⟩
    ·exact fQ r2 hbF
   ·refine UU o1 (o2.mono (Nat.le_refl _) fun c hc=>by have:c≠b:=fun e=>hbF (e▸hc);simp[this]) hsub fun c hc=>?_
    rcases List.mem_cons.1 hc with rfl|hc
    ·simp[hmi]
    ·obtain⟨d1,d2,d3⟩:=hd1 c hc
     simp only[fT,d2,if_false];rw[k2.2 c d3 d1]
  ·(repeat' first|refine vs ?_|fail)
   exact⟨rfl,_,rfl,e1,_,by rw[KU hx (by omega)];exact q1,o1⟩
end Go.Proofs.YtekfdoknfcedpaaGreat
end
section
set_option linter.unusedSimpArgs false
set_option linter.unusedVariables false
set_option maxHeartbeats 2000000
namespace Go.Proofs.YtekfdoknfcedpaaGreat
open Go Go.Ab
section
def M4 (x0 x1:AV):Prog:=Ln 0 x0 fun a=>.loop [.int .i64 0] (fun b=>Bn .lss (g b 0) a fun a=>.ite a (Ix 1 x0 (g b 0) fun a=>.op (.ld1 a) fun a=>Bn .eql x1 a fun a=>.ite a (.fin [.val (g b 0)]) (Bn .add (g b 0) (.int .i64 1) fun a=>.leaf 0 [a])) (.leaf 2 [g b 0])) fun a b=>ak a 1 (.leaf 1 b) (ak a 2 (.fin [.val (.int .i64 (-1))]) .bad)
theorem aaq (x0 x1:AV):CC Tryz.prog Bl [x0,x1] (M4 x0 x1):=cc Tryz.func316 [0,1,7,8] (fun _=>[])
def MU (x0 x1:AV):Prog:=Cl Bl [x0,x1] fun a=>Bn .geq a (.int .i64 0) fun a=>.fin [.val a]
theorem ZY (x0 x1:AV):CC Tryz.prog Bh [x0,x1] (MU x0 x1):=cc Tryz.func268
def QU (x0 x1:AV):Prog:=.loop [.int .i64 0] (fun a=>Ln 0 x0 fun b=>Bn .lss (g a 0) b fun b=>.ite b (Ix 1 x0 (g a 0) fun b=>.op (.ld1 b) fun b=>Bn .eql b x1 fun b=>.ite b (.fin [.val (.bool true)]) (Bn .add (g a 0) (.int .i64 1) fun a=>.leaf 0 [a])) (.leaf 2 [g a 0])) fun a b=>ak a 1 (.leaf 1 b) (ak a 2 (.fin [.val (.bool false)]) .bad)
theorem ahi (x0 x1:AV):CC Tryz.prog DV [x0,x1] (QU x0 x1):=cc Tryz.func175 [0,1,5] (fun _=>[])
def Oc (x0:AV):Prog:=Ln 0 x0 fun a=>Cl bA [a,.int .i64 1,.int .i64 3] fun a=>.op (.una .not a) fun a=>.ite a (.fin [.val (.bool false)]) (Ln 0 x0 fun a=>.loop [.au,.tup [],.tup [],.int .i64 0,.tup [],.tup [],.tup []] (fun b=>Bn .lss (g b 3) a fun a=>.ite a (Ix 2 x0 (g b 3) fun a=>Ld 2 a fun a=>.op (.alloc [.int .i64 0,.au]) fun c=>.op (.st 2 c a) fun _=>Lg 0 c fun a=>Cl bA [a,.int .i64 (-1),.int .i64 4] fun a=>.op (.una .not a) fun a=>.ite a (.fin [.val (.bool false)]) (Lg 1 c fun a=>Ln 0 a fun d=>.loop [g b 0,.int .i64 0] (fun e=>Bn .lss (g e 1) d fun d=>.ite d (Ix 4 a (g e 1) fun a=>Ld 4 a fun a=>.op (.alloc [.int .i64 0,.int .i64 0,.int .i64 0,.au]) fun d=>.op (.st 4 d a) fun _=>Ld 4 d fun a=>Cl Dy [a] fun a=>.op (.una .not a) fun a=>Gf a false 0 d fun f=>.gop a false (.mv x0) fun i=>.gop a false (.len 0 i) fun i=>.gop a false (.mv (g b 3)) fun b=>.gop a false (.call iY [f,i]) fun f=>.gop a false (.bin 0 .neq f b) fun b=>Pk a (.bool true) b fun a=>.gop a false (.mv (g e 1)) fun b=>.gop a false (.bin 0 .gtr b (.int .i64 0)) fun b=>.gop a false (.mv b) fun b=>Gf b true 1 c fun c=>.gop b true (.mv (g e 1)) fun f=>.gop b true (.bin 0 .sub f (.int .i64 1)) fun f=>.gop b true (.idx 4 c f) fun c=>Gf b true 0 c fun c=>Gf b true 0 d fun f=>.gop b true (.bin 0 .geq c f) fun c=>.gop a false (.pick b c (.bool false)) fun b=>Pk a (.bool true) b fun a=>.gop a false (.mv (g e 0)) fun b=>Gf a false 1 d fun c=>.gop a false (.call Bh [b,c]) fun b=>Pk a (.bool true) b fun a=>.ite a (.fin [.val (.bool false)]) (Lg 1 d fun a=>.op (.aW 1 1 [.int .i64 0] [(0,1,a)]) fun a=>.op (.app 1 8 (g e 0) a) fun a=>Bn .add (g e 1) (.int .i64 1) fun b=>.leaf 0 [a,b])) (.leaf 4 [g e 0,g e 1])) fun e f=>ak e 1 (.leaf 1 f) (ak e 4 (Bn .add (g b 3) (.int .i64 1) fun e=>.leaf 0 [g f 0,g b 3,c,e,a,d,g f 1]) .bad))) (.leaf 2 [g b 0,g b 1,g b 2,g b 3,g b 4,g b 5,g b 6])) fun a b=>ak a 1 (.leaf 1 b) (ak a 2 (.fin [.val (.bool true)]) .bad))
theorem ac0 (x0:AV):CC Tryz.prog Ce [x0] (Oc x0):=cc Tryz.func196 [0,3,4,5,12,13,14,24,25,26] (fun r=>if r=12 then[(0,[]),(1,[]),(2,[]),(3,[]),(4,[]),(5,[]),(6,[]),(7,[]),(9,[]),(8,[]),(10,[]),(11,[]),(12,[]),(13,[]),(14,[]),(15,[]),(16,[]),(17,[]),(18,[]),(19,[]),(20,[]),(21,[]),(22,[]),(23,[]),(24,[]),(25,[]),(26,[]),(27,[]),(28,[]),(29,[]),(30,[]),(31,[]),(32,[]),(33,[])] else[])
def Ny (x0:AV):Prog:=Ln 0 x0 fun a=>Cl bI [a,.int .i64 1,.int .i64 3] fun a=>.op (.una .not a) fun a=>.ite a (.fin [.val (.bool false)]) (.op (.aW 1 0 [] []) fun a=>.loop [a,.int .i64 0,.tup []] (fun a=>Ln 0 x0 fun b=>Bn .lss (g a 1) b fun b=>.ite b (Ix 2 x0 (g a 1) fun b=>Lg 0 b fun b=>Cl bI [b,.int .i64 (-1),.int .i64 4] fun b=>.op (.una .not b) fun b=>.ite b (.fin [.val (.bool false)]) (.loop [g a 0,.int .i64 0] (fun b=>Ix 2 x0 (g a 1) fun c=>Lg 1 c fun c=>Ln 0 c fun c=>Bn .lss (g b 1) c fun c=>.ite c (Ix 2 x0 (g a 1) fun c=>Lg 1 c fun c=>Ix 4 c (g b 1) fun c=>Ld 4 c fun c=>.op (.alloc [.int .i64 0,.int .i64 0,.int .i64 0,.au]) fun d=>.op (.st 4 d c) fun _=>Ld 4 d fun c=>Cl CZ [c] fun c=>.op (.una .not c) fun c=>Gf c false 0 d fun e=>.gop c false (.mv x0) fun f=>.gop c false (.len 0 f) fun f=>.gop c false (.mv (g a 1)) fun i=>.gop c false (.call eU [e,f]) fun e=>.gop c false (.bin 0 .neq e i) fun e=>Pk c (.bool true) e fun c=>.gop c false (.mv (g b 1)) fun e=>.gop c false (.bin 0 .gtr e (.int .i64 0)) fun e=>.gop c false (.mv e) fun e=>.gop e true (.mv x0) fun f=>.gop e true (.mv (g a 1)) fun a=>.gop e true (.idx 2 f a) fun a=>Gf e true 1 a fun a=>.gop e true (.mv (g b 1)) fun f=>.gop e true (.bin 0 .sub f (.int .i64 1)) fun f=>.gop e true (.idx 4 a f) fun a=>Gf e true 0 a fun a=>Gf e true 0 d fun f=>.gop e true (.bin 0 .geq a f) fun a=>.gop c false (.pick e a (.bool false)) fun a=>Pk c (.bool true) a fun a=>.gop a false (.mv (g b 0)) fun c=>Gf a false 1 d fun e=>.gop a false (.call DV [c,e]) fun c=>Pk a (.bool true) c fun a=>.ite a (.fin [.val (.bool false)]) (Lg 1 d fun a=>.op (.aW 1 1 [.int .i64 0] [(0,1,a)]) fun a=>.op (.app 1 8 (g b 0) a) fun a=>Bn .add (g b 1) (.int .i64 1) fun b=>.leaf 0 [a,b])) (.leaf 4 [g b 0,g b 1])) fun b c=>ak b 1 (.leaf 1 c) (ak b 4 (Bn .add (g a 1) (.int .i64 1) fun a=>.leaf 0 [g c 0,a,g c 1]) .bad))) (.leaf 2 [g a 0,g a 1,g a 2])) fun a b=>ak a 1 (.leaf 1 b) (ak a 2 (.fin [.val (.bool true)]) .bad))
theorem acd (x0:AV):CC Tryz.prog BJ [x0] (Ny x0):=cc Tryz.func98 [0,3,4,5] (fun r=>if r=13 then[(0,[]),(1,[]),(2,[]),(3,[]),(4,[]),(5,[]),(6,[]),(7,[]),(9,[]),(8,[]),(10,[]),(11,[]),(12,[]),(13,[]),(14,[]),(15,[]),(16,[]),(17,[]),(18,[]),(19,[]),(20,[]),(21,[]),(22,[]),(23,[]),(24,[]),(25,[]),(26,[]),(27,[]),(28,[]),(29,[]),(30,[]),(31,[]),(32,[]),(33,[]),(34,[]),(35,[]),(36,[])] else[])
end
theorem aaf {h:AH} {xs:List Int} {v:AV} {F:List Nat} {n:Int} (r:aj h v xs F):aO Tryz.prog Bl [v,.int .i64 n] h (.int .i64 (idx (fun y=>decide (n=y)) xs)):=by
 refine reader (aaq _ _) (by simp only[old]) ?_
 unfold M4
 have hsm:=r.small
 refine bC r ?_
 refine aT xs.length (fun i vs h1=>vs=[.int .i64 (i:Int)]∧i≤xs.length∧h1=h∧bZ xs (fun _ y=>decide (n=y)=false) i) ⟨rfl,Nat.zero_le _,rfl,up0⟩ ?_
 rintro i vs h1 _ ⟨rfl,hi,rfl,hu⟩
 simp only[g0]
 refine br (fun hlt=>?_) (fun hge=>?_)
 ·obtain⟨x,hx,-,-⟩:=aQ (show i < xs.length by omega)
  (repeat' first|refine vs ?_|(refine br ?_ ?_<;>first|exact bx|intro _)|((with_reducible refine aP ?_);((refine ix ?_);rintro _ _ _ _ _ ⟨rfl,rfl⟩ _))|fail)
  ·rename_i he
   exact pi (uy hx (by simp[he]) fun j y hj hy=>hu j y hj hy).symm
  ·rename_i he
   exact⟨by omega,rfl,by omega,rfl,upS hu hx (by simp[he])⟩
 ·(repeat' first|refine vs ?_|fail)
  exact pi (Aa fun j y hj hy=>hu j y (by omega) hy).symm
theorem ZU {h:AH} {xs:List Int} {v:AV} {F:List Nat} {n:Int} (r:aj h v xs F):aO Tryz.prog Bh [v,.int .i64 n] h (.bool (bp (n∈xs))):=by
 refine reader (ZY _ _) (by simp only[old]) ?_
 unfold MU
 (repeat' first|refine vs ?_|(refine br ?_ ?_<;>first|exact bx|intro _)|((with_reducible refine ay Bl ?_);refine aK (aaf ah) ?_)|fail)
 ·rename_i hge
  rcases wD (fun y=>decide (n=y)) xs with⟨e,-⟩|⟨i,x,e,hx,hp,-⟩
  ·omega
  ·exact pt (by simp at hp;subst hp;exact List.mem_of_getElem? hx)
 ·rename_i hlt
  rcases wD (fun y=>decide (n=y)) xs with⟨e,hf⟩|⟨i,x,e,hx,hp,-⟩
  ·refine pf fun hm=>?_
   rw[List.filter_eq_self] at hf
   have:=hf n hm;simp at this
  ·omega
theorem agD {h:AH} {xs:List Int} {v:AV} {F:List Nat} {n:Int} (r:aj h v xs F):aO Tryz.prog DV [v,.int .i64 n] h (.bool (bp (n∈xs))):=by
 refine reader (ahi _ _) (by simp only[old]) ?_
 unfold QU
 have hsm:=r.small
 refine aT xs.length (fun i vs h1=>vs=[.int .i64 (i:Int)]∧i≤xs.length∧h1=h∧bZ xs (fun _ y=>¬ y=n) i) ⟨rfl,Nat.zero_le _,rfl,up0⟩ ?_
 rintro i vs h1 _ ⟨rfl,hi,rfl,hu⟩
 simp only[g0]
 refine bC r ?_
 refine br (fun hlt=>?_) (fun hge=>?_)
 ·obtain⟨x,hx,-,-⟩:=aQ (show i < xs.length by omega)
  (repeat' first|refine vs ?_|(refine br ?_ ?_<;>first|exact bx|intro _)|((with_reducible refine aP ?_);((refine ix ?_);rintro _ _ _ _ _ ⟨rfl,rfl⟩ _))|fail)
  ·rename_i he
   exact pt (by subst he;exact List.mem_of_getElem? hx)
  ·rename_i he
   exact⟨by omega,rfl,by omega,rfl,upS hu hx he⟩
 ·(repeat' first|refine vs ?_|fail)
  rw[show i=xs.length by omega] at hu
  exact pf fun hm=>fZ hu n hm rfl
def LV (l:List aM) (i:Nat) (x:aM) (k:Nat) (t:Trail):Prop:=ER t∧stripe t.id l.length=i∧(∀ u,0 < k→x.l[((k:Int) - 1).toNat]? =some u→¬ t.id≤u.id)∧t.stamp ∉ (allT (l.take i)++x.l.take k).map (·.stamp)
def Lm (l:List aM) (i:Nat) (x:aM):Prop:=(-1≤x.held∧x.held≤4)∧∀ k t,x.l[k]? =some t→LV l i x k t
def zl (l:List aM):Prop:=(1≤(l.length:Int)∧(l.length:Int)≤3)∧∀ i x,l[i]? =some x→Lm l i x
def stamps (l:List aM) (i:Nat) (x:aM) (k:Nat):List Int:=(allT (l.take i)++x.l.take k).map (·.stamp)
theorem Ua {l:List aM} {i:Nat} {x:aM} {k:Nat} {t:Trail} (ht:x.l.take (k+1)=x.l.take k++[t]):stamps l i x (k+1)=stamps l i x k++[t.stamp]:=by unfold stamps;rw[ht,←List.append_assoc,List.map_append];rfl
theorem Ub {l:List aM} {i:Nat} {x:aM} (ht:l.take (i+1)=l.take i++[x]):stamps l i x x.l.length=(allT (l.take (i+1))).map (·.stamp):=by unfold stamps;rw[Ag ht,List.take_length]
theorem SV (l:List aM) (i:Nat) (x:aM) (k:Nat):(stamps l i x k).length≤szs (l.take i)+x.l.length:=by
 have:=uz (l.take i)
 unfold stamps;rw[List.length_map,List.length_append,List.length_take];omega
theorem abE {h:AH} {l:List aM} {v:AV} {F:List Nat} (ok:∀ x∈l,Cel.ok x) (hs:l.length+szs l≤67108864) (r:aj h v l F):aO Tryz.prog Ce [v] h (.bool (bp (zl l))):=by
 refine reader (ac0 _) (by simp only[old]) ?_
 unfold Oc
 have hsm:=r.small
 (repeat' first|refine vs ?_|((with_reducible refine ay bA ?_);(refine cZ gF ?_ ?_<;>intro hb<;>first|replace hb:=dD hb|replace hb:=dH hb))|fail)
 rotate_left
 ·exact pf (fun k=>by have:=k.1;omega)
 refine aT l.length (fun i vs h1=>∃ u G z1 z2 z4 z5 z6,vs=[u,z1,z2,.int .i64 (i:Int),z4,z5,z6]∧i≤l.length∧Ext h h1∧aj h1 u ((allT (l.take i)).map (·.stamp)) G∧Own h.n h1 G∧bZ l (Lm l) i) ⟨.au,[],_,_,_,_,_,rfl,Nat.zero_le _,Ext.refl _,aj.au,Own.nil,up0⟩ ?_
 rintro i vs h1 _ ⟨u,G,z1,z2,z4,z5,z6,rfl,hi,e1,ru,ou,hu⟩
 have n1:=e1.1
 simp only[g0,g3]
 refine br (fun hlt=>?_) (fun hge=>?_)
 ·obtain⟨x,hx,-,htk⟩:=aQ (show i < l.length by omega)
  have hxm:=List.mem_of_getElem? hx
  have hm:=bf hxm
  have hx2:Sz.sz x=x.l.length+szs x.l:=rfl
  have okx:=ok x hxm
  refine vs ?_
  refine bX r hx rfl ?_
  rintro b o _ Fi a ⟨v0,rfl,r0⟩ _
  (repeat' first|refine vs ?_|((with_reducible refine ay bA ?_);(refine cZ gF ?_ ?_<;>intro hb<;>first|replace hb:=dD hb|replace hb:=dH hb))|fail)
  rotate_left
  ·exact pf (fun k=>by have:=(k.2 i x hx).1;omega)
  have hle:=iP l i
  refine aT x.l.length (fun k vs h2=>∃ u G,vs=[u,.int .i64 (k:Int)]∧k≤x.l.length∧Ext h h2∧Bk h2 h1.n [.int .i64 x.held,v0] 0∧h1.n ∉ G∧aj h2 u (stamps l i x k) G∧Own h.n h2 G∧bZ x.l (LV l i x) k) ⟨u,G,rfl,Nat.zero_le _,aA,aX,xq ru (Nat.le_refl _),by unfold stamps;rw[List.take_zero,List.append_nil];exact ah,aZ,up0⟩ ?_
  rintro k vs h2 _ ⟨u2,G2,rfl,hk,e2,bk2,nb2,ru2,ou2,hu2⟩
  have n2:=e2.1
  have nb:=bk2.1
  simp only[g0,g1]
  refine br (fun hlt2=>?_) (fun lX=>?_)
  ·obtain⟨t,ht,-,mU⟩:=aQ (show k < x.l.length by omega)
   have htm:=List.mem_of_getElem? ht
   have hm2:=bf htm
   have okt:=okx.2 t htm
   have hsl:=SV l i x k
   (repeat' first|refine vs ?_|(refine br ?_ ?_<;>first|exact bx|intro _)|((with_reducible refine ay Dy ?_);(refine aU (ae9 okt.2.2.2 (by omega) ah) ?_ ?_<;>intro hn))|((with_reducible refine ay iY ?_);refine aK qx ?_)|((with_reducible refine ay Bh ?_);(refine aU (ZU ah) ?_ ?_<;>intro hc))|((with_reducible refine aP ?_);((first|refine ix ?_|(refine kZ ?_;intro _ _));rintro _ _ _ _ _ ⟨_,rfl,_⟩ _))|fail)
   all_goals first
    |(refine pf fun k1=>?_;have k1:=(k1.2 i x hx).2 k t ht;obtain⟨a1,a2,a3,a4⟩:=k1;first|contradiction|exact a3 _ (by omega) (by assumption) (by omega))
    |skip
   all_goals
    refine iN (n:=h.n) (xs:=stamps l i x k) (Fx:=G2) (a:=t.stamp) ah ⟨rfl,rfl⟩ (by rw[List.append_nil];exact aZ) aL rfl ?_ ?_ ?_
    ·omega
    ·omega
    intro u' h' F' ek kp r' o' hF'
    (repeat' first|refine vs ?_|fail)
    refine⟨by omega,u',F',rfl,by omega,ek h aA (Nat.le_refl _),bJ kp aX nb2,fun hc=>?_,by rw[Ua mU];exact r',o',upS hu2 ht ⟨by assumption,by omega,fun u h0 hu=>?_,by assumption⟩⟩
    ·rcases hF' _ hc with hc|hc|hc
     ·exact nb2 hc
     ·cases hc
     ·simp only[aD] at hc;omega
    ·first
     |(exfalso;omega)
     |(simp_all;done)
     |(simp_all;omega)
  ·(repeat' first|refine vs ?_|fail)
   have e:k=x.l.length:=by omega
   rw[e,Ub htk] at ru2
   rw[e] at hu2
   exact⟨by omega,u2,G2,_,_,_,_,_,rfl,by omega,aA,ru2,ou2,upS hu hx ⟨by omega,fun k t ht=>jE hu2 k t ht⟩⟩
 ·(repeat' first|refine vs ?_|fail)
  rw[show i=l.length by omega] at hu
  exact pt ⟨by omega,fun i x hx=>jE hu i x hx⟩
theorem abe {h:AH} {l:List aM} {v:AV} {F:List Nat} (ok:∀ x∈l,Cel.ok x) (hs:l.length+szs l≤67108864) (r:aj h v l F):aO Tryz.prog BJ [v] h (.bool (bp (zl l))):=by
 refine reader (acd _) (by simp only[old]) ?_
 unfold Ny
 have hsm:=r.small
 (repeat' first|refine vs ?_|((with_reducible refine ay bI ?_);(refine cZ iw ?_ ?_<;>intro hb<;>first|replace hb:=dD hb|replace hb:=dH hb))|fail)
 rotate_left
 ·exact pf (fun k=>by have:=k.1;omega)
 obtain⟨re,oe⟩:=jc (h:=h) (α:=Int) (w:=1) rfl
 refine aT l.length (fun i vs h1=>∃ u G z,vs=[u,.int .i64 (i:Int),z]∧i≤l.length∧Ext h h1∧aj h1 u ((allT (l.take i)).map (·.stamp)) G∧Own h.n h1 G∧bZ l (Lm l) i) ⟨_,_,_,rfl,Nat.zero_le _,aA,re,oe _ (Nat.le_refl _),up0⟩ ?_
 rintro i vs h1 _ ⟨u,G,z,rfl,hi,e1,ru,ou,hu⟩
 have n1:=e1.1
 simp only[g0,g1]
 refine bC r ?_
 refine br (fun hlt=>?_) (fun hge=>?_)
 ·obtain⟨x,hx,-,htk⟩:=aQ (show i < l.length by omega)
  have hxm:=List.mem_of_getElem? hx
  have hm:=bf hxm
  have hx2:Sz.sz x=x.l.length+szs x.l:=rfl
  have okx:=ok x hxm
  (repeat' first|refine vs ?_|((with_reducible refine ay bI ?_);(refine cZ iw ?_ ?_<;>intro hb<;>first|replace hb:=dD hb|replace hb:=dH hb))|((with_reducible refine aP ?_);((refine ix ?_);rintro _ _ _ _ _ ⟨_,rfl,_⟩ _))|fail)
  rotate_left
  ·exact pf (fun k=>by have:=(k.2 i x hx).1;omega)
  have hle:=iP l i
  refine aT x.l.length (fun k vs h2=>∃ u G,vs=[u,.int .i64 (k:Int)]∧k≤x.l.length∧Ext h h2∧aj h2 u (stamps l i x k) G∧Own h.n h2 G∧bZ x.l (LV l i x) k) ⟨u,G,rfl,Nat.zero_le _,aA,by unfold stamps;rw[List.take_zero,List.append_nil];exact ah,aZ,up0⟩ ?_
  rintro k vs h2 _ ⟨u2,G2,rfl,hk,e2,ru2,ou2,hu2⟩
  have n2:=e2.1
  simp only[g0,g1]
  refine bX r hx rfl ?_
  rintro b o _ Fi a ⟨v0,rfl,r0⟩ _
  refine vs ?_
  refine br (fun hlt2=>?_) (fun lX=>?_)
  ·obtain⟨t,ht,-,mU⟩:=aQ (show k < x.l.length by omega)
   have htm:=List.mem_of_getElem? ht
   have hm2:=bf htm
   have okt:=okx.2 t htm
   have hsl:=SV l i x k
   (repeat' first|refine vs ?_|(refine br ?_ ?_<;>first|exact bx|intro _)|((with_reducible refine ay CZ ?_);(refine aU (aeG okt.2.2.2 (by omega) ah) ?_ ?_<;>intro hn))|((with_reducible refine ay eU ?_);refine aK iq ?_)|((with_reducible refine ay DV ?_);(refine aU (agD ah) ?_ ?_<;>intro hc))|((with_reducible refine aP ?_);((first|refine ix ?_|(refine kZ ?_;intro _ _));rintro _ _ _ _ _ ⟨_,rfl,_⟩ _))|fail)
   all_goals first
    |(refine pf fun k1=>?_;have k1:=(k1.2 i x hx).2 k t ht;obtain⟨a1,a2,a3,a4⟩:=k1;first|contradiction|exact a3 _ (by omega) (by assumption) (by omega))
    |skip
   all_goals
    refine app1 (n:=h.n) (xs:=stamps l i x k) (Fx:=G2) (a:=t.stamp) ah ⟨rfl,rfl⟩ (by rw[List.append_nil];exact aZ) aL rfl ?_ ?_ ?_
    ·omega
    ·omega
    intro u' h' F' ek kp r' o'
    (repeat' first|refine vs ?_|fail)
    refine⟨by omega,u',F',rfl,by omega,ek h aA (Nat.le_refl _),by rw[Ua mU];exact r',o',upS hu2 ht ⟨by assumption,by omega,fun u h0 hu=>?_,by assumption⟩⟩
    first
     |(exfalso;omega)
     |(simp_all;done)
     |(simp_all;omega)
  ·(repeat' first|refine vs ?_|fail)
   have e:k=x.l.length:=by omega
   rw[e,Ub htk] at ru2
   rw[e] at hu2
   exact⟨by omega,u2,G2,_,rfl,by omega,aA,ru2,ou2,upS hu hx ⟨by omega,fun k t ht=>jE hu2 k t ht⟩⟩
 ·(repeat' first|refine vs ?_|fail)
  rw[show i=l.length by omega] at hu
  exact pt ⟨by omega,fun i x hx=>jE hu i x hx⟩
end Go.Proofs.YtekfdoknfcedpaaGreat
end
section
set_option linter.unusedSimpArgs false
set_option linter.unusedVariables false
namespace Go.Proofs.YtekfdoknfcedpaaGreat
open Go Go.Ab
theorem SQ {α:Type} [Sz α] {y:α}:∀ {l:List α} {i:Nat} {x:α},l[i]? =some x→Sz.sz y≤Sz.sz x→szs (l.set i y)≤szs l
 |[],i,x,h,_=>by simp at h
 |a::l,0,x,h,hy=>by
  simp at h;subst h
  simp only[List.set_cons_zero,szs];omega
 |a::l,i+1,x,h,hy=>by
  simp at h
  have:=SQ (l:=l) h hy
  simp only[List.set_cons_succ,szs];omega
theorem RN {α:Type} [Sz α]:∀ (l:List α) (i:Nat),szs (l.eraseIdx i)≤szs l
 |[],i=>by simp
 |a::l,0=>by simp only[List.eraseIdx_cons_zero,szs];omega
 |a::l,i+1=>by
  have:=RN l i
  simp only[List.eraseIdx_cons_succ,szs];omega
theorem akx (l:List aM) (id:Int):(gL l id).length+szs (gL l id)≤l.length+szs l:=by
 rcases hx:l[(stripe id l.length).toNat]? with _|x
 ·unfold gL;rw[hx];simp only;omega
 ·by_cases e:idx (isId id) x.l < 0
  ·rw[KU hx e];omega
  ·rw[EN hx e]
   have h1:szs (l.set (stripe id l.length).toNat {x with l:=x.l.eraseIdx (idx (isId id) x.l).toNat})≤szs l:=by
    refine SQ hx ?_
    have h2:=RN x.l (idx (isId id) x.l).toNat
    have h3:Sz.sz x=x.l.length+szs x.l:=rfl
    have h4:Sz.sz ({x with l:=x.l.eraseIdx (idx (isId id) x.l).toNat}:aM)=(x.l.eraseIdx (idx (isId id) x.l).toNat).length+szs (x.l.eraseIdx (idx (isId id) x.l).toNat):=rfl
    have h5:=List.length_eraseIdx_le x.l (idx (isId id) x.l).toNat
    omega
   simp only[List.length_set];omega
end Go.Proofs.YtekfdoknfcedpaaGreat
end
section
set_option linter.unusedSimpArgs false
set_option linter.unusedVariables false
set_option maxHeartbeats 2000000
namespace Go.Proofs.YtekfdoknfcedpaaGreat
open Go Go.Ab
section
def N7 (x0:AV):Prog:=Ln 0 x0 fun a=>.loop [.au,.int .i64 0] (fun b=>Bn .lss (g b 1) a fun a=>.ite a (Ix 7 x0 (g b 1) fun a=>Ld 7 a fun a=>.op (.alloc jD) fun c=>.op (.st 7 c a) fun _=>.op (.fad 0 c) fun a=>.op (.ld1 a) fun d=>.op (.fad 1 c) fun c=>Ld 6 c fun c=>Cl kJ [c] fun c=>.chk (.ld1 a) d (.op (.build jD [(0,1,d),(1,6,c)]) fun a=>.op (.aW 7 1 jD [(0,7,a)]) fun a=>.op (.app 7 72 (g b 0) a) fun a=>Bn .add (g b 1) (.int .i64 1) fun b=>.leaf 0 [a,b])) (.leaf 2 [g b 0,g b 1])) fun a b=>ak a 1 (.leaf 1 b) (ak a 2 (.fin [.val (g b 0)]) .bad)
theorem acV (x0:AV):CC Tryz.prog vE [x0] (N7 x0):=cc Tryz.func122 [3,6,7,8] (fun r=>if r=5 then[(0,[]),(1,[]),(2,[]),(3,[]),(4,[]),(5,[2]),(6,[]),(7,[]),(8,[]),(9,[])] else[])
def Oo (x0:AV):Prog:=.op (.aW 7 0 [] []) fun a=>.loop [a,.int .i64 0] (fun a=>Ln 0 x0 fun b=>Bn .lss (g a 1) b fun b=>.ite b (Ix 7 x0 (g a 1) fun b=>.op (.fad 0 b) fun b=>.op (.ld1 b) fun c=>Ix 7 x0 (g a 1) fun d=>.op (.fad 1 d) fun d=>Ld 6 d fun d=>Cl lC [d] fun d=>.chk (.ld1 b) c (.op (.build jD [(0,1,c),(1,6,d)]) fun b=>.op (.aW 7 1 jD [(0,7,b)]) fun b=>.op (.app 7 72 (g a 0) b) fun b=>Bn .add (g a 1) (.int .i64 1) fun a=>.leaf 0 [b,a])) (.leaf 2 [g a 0,g a 1])) fun a b=>ak a 1 (.leaf 1 b) (ak a 2 (.fin [.val (g b 0)]) .bad)
theorem adP (x0:AV):CC Tryz.prog vF [x0] (Oo x0):=cc Tryz.func94 [0,3,4] (fun r=>if r=5 then[(0,[]),(1,[]),(2,[]),(3,[]),(4,[]),(5,[]),(6,[]),(7,[]),(8,[]),(9,[]),(10,[]),(11,[5]),(12,[]),(13,[]),(14,[]),(15,[])] else[])
end
theorem Ib (xs:List Itm) (hs:xs.length+szs xs≤67108864):fI Tryz.prog vE xs:=by
 intro v F h r
 refine acV _ ?_
 unfold N7
 have hsm:=r.small
 refine bC r ?_
 refine aT xs.length (fun i vs h1=>∃ u G,vs=[u,.int .i64 (i:Int)]∧i≤xs.length∧Ext h h1∧aj h1 u (xs.take i) G∧Own h.n h1 G) ⟨.au,[],rfl,Nat.zero_le _,Ext.refl _,aj.au,Own.nil⟩ ?_
 rintro i vs h1 _ ⟨u,G,rfl,hi,e1,ru,ou⟩
 have n1:=e1.1
 simp only[g0,g1]
 refine br (fun hlt=>?_) (fun hge=>?_)
 ·obtain⟨x,hx,-,htk⟩:=aQ (show i < xs.length by omega)
  have hm:=bf (List.mem_of_getElem? hx)
  have hx2:Sz.sz x=Sz.sz x.s:=rfl
  refine vs ?_
  refine bX r hx rfl ?_
  rintro b o _ Fi a ⟨v0,rfl,r0⟩ _
  (repeat' first|refine vs ?_|((with_reducible refine ay kJ ?_);(refine aG (sF x.s (by omega) _ _ _ ⟨_,rfl,ah⟩) ?_;rintro _ h2 ⟨e2,_,G2,rfl,⟨w2,rfl,q2⟩,o2⟩;have n2:=e2.1;(try simp only[aD,aN] at n2)))|fail)
  have hlen:(xs.take i).length=i:=by rw[List.length_take];omega
  refine app1 (n:=h.n) (xs:=xs.take i) (Fx:=G) (a:=x) ah ⟨_,rfl,q2⟩ (gH (aZ) o2 (by simp only[aD];omega) jy) aL rfl ?_ ?_ ?_
  ·rw[hlen];omega
  ·rw[hlen];omega
  intro u' h' F' ek kp r' o'
  (repeat' first|refine vs ?_|fail)
  exact⟨by omega,u',F',rfl,by omega,ek h aA (Nat.le_refl _),by rw[htk];exact r',o'⟩
 ·(repeat' first|refine vs ?_|fail)
  exact⟨rfl,u,rfl,e1,G,by rw[show i=xs.length by omega,List.take_length] at ru;exact ru,ou⟩
theorem IB (xs:List Itm) (hs:xs.length+szs xs≤67108864):fI Tryz.prog vF xs:=by
 intro v F h r
 refine adP _ ?_
 unfold Oo
 have hsm:=r.small
 obtain⟨re,oe⟩:=jc (h:=h) (α:=Itm) (w:=7) rfl
 refine vs ?_
 refine aT xs.length (fun i vs h1=>∃ u G,vs=[u,.int .i64 (i:Int)]∧i≤xs.length∧Ext h h1∧aj h1 u (xs.take i) G∧Own h.n h1 G) ⟨_,_,rfl,Nat.zero_le _,(Ext.refl _).push _,by rw[List.take_zero];exact re,oe _ (Nat.le_refl _)⟩ ?_
 rintro i vs h1 _ ⟨u,G,rfl,hi,e1,ru,ou⟩
 have n1:=e1.1
 simp only[g0,g1]
 refine bC r ?_
 refine br (fun hlt=>?_) (fun hge=>?_)
 ·obtain⟨x,hx,-,htk⟩:=aQ (show i < xs.length by omega)
  have hm:=bf (List.mem_of_getElem? hx)
  have hx2:Sz.sz x=Sz.sz x.s:=rfl
  (repeat' first|refine vs ?_|((with_reducible refine ay lC ?_);(refine aG (sU x.s (by omega) _ _ _ ⟨_,rfl,ah⟩) ?_;rintro _ h2 ⟨e2,_,G2,rfl,⟨w2,rfl,q2⟩,o2⟩;have n2:=e2.1;(try simp only[aD,aN] at n2)))|((with_reducible refine aP ?_);((refine ix ?_);rintro _ _ _ _ _ ⟨_,rfl,_⟩ _))|fail)
  have hlen:(xs.take i).length=i:=by rw[List.length_take];omega
  refine app1 (n:=h.n) (xs:=xs.take i) (Fx:=G) (a:=x) ah ⟨_,rfl,q2⟩ (gH (aZ) o2 (by omega) jy) aL rfl ?_ ?_ ?_
  ·rw[hlen];omega
  ·rw[hlen];omega
  intro u' h' F' ek kp r' o'
  (repeat' first|refine vs ?_|fail)
  exact⟨by omega,u',F',rfl,by omega,ek h aA (Nat.le_refl _),by rw[htk];exact r',o'⟩
 ·(repeat' first|refine vs ?_|fail)
  exact⟨rfl,u,rfl,e1,G,by rw[show i=xs.length by omega,List.take_length] at ru;exact ru,ou⟩
end Go.Proofs.YtekfdoknfcedpaaGreat
end
section
set_option linter.unusedSimpArgs false
set_option linter.unusedVariables false
set_option maxHeartbeats 2000000
namespace Go.Proofs.YtekfdoknfcedpaaGreat
open Go Go.Ab
section
def N8 (x0:AV):Prog:=Ln 0 x0 fun a=>.loop [.au,.int .i64 0] (fun b=>Bn .lss (g b 1) a fun a=>.ite a (Ix 20 x0 (g b 1) fun a=>Ld 20 a fun a=>.op (.alloc jf) fun c=>.op (.st 20 c a) fun _=>.op (.fad 2 c) fun a=>Ld 6 a fun a=>Cl kJ [a] fun a=>.op (.fad 2 c) fun d=>.op (.st 6 d a) fun _=>Ld 20 c fun a=>.op (.aW 20 1 jf [(0,20,a)]) fun a=>.op (.app 20 168 (g b 0) a) fun a=>Bn .add (g b 1) (.int .i64 1) fun b=>.leaf 0 [a,b]) (.leaf 2 [g b 0,g b 1])) fun a b=>ak a 1 (.leaf 1 b) (ak a 2 (.fin [.val (g b 0)]) .bad)
theorem acW (x0:AV):CC Tryz.prog Iu [x0] (N8 x0):=cc Tryz.func123 [3,6,7,8] (fun _=>[])
def PG (x0:AV):Prog:=.op (.box x0) fun a=>.op (.alloc jf) fun b=>.op (.fad 2 a) fun c=>Ld 6 c fun c=>Cl lC [c] fun c=>.op (.fad 2 a) fun d=>.op (.st 6 d c) fun _=>Ld 20 a fun a=>.op (.st 20 b a) fun _=>.fin [.cn 20 b]
theorem afB (x0:AV):CC Tryz.prog Jh [x0] (PG x0):=cc Tryz.func172
end
theorem abC (xs:List bV) (hs:xs.length+szs xs≤67108864):fI Tryz.prog Iu xs:=by
 intro v F h r
 refine acW _ ?_
 unfold N8
 have hsm:=r.small
 refine bC r ?_
 refine aT xs.length (fun i vs h1=>∃ u G,vs=[u,.int .i64 (i:Int)]∧i≤xs.length∧Ext h h1∧aj h1 u (xs.take i) G∧Own h.n h1 G) ⟨.au,[],rfl,Nat.zero_le _,Ext.refl _,aj.au,Own.nil⟩ ?_
 rintro i vs h1 _ ⟨u,G,rfl,hi,e1,ru,ou⟩
 have n1:=e1.1
 simp only[g0,g1]
 refine br (fun hlt=>?_) (fun hge=>?_)
 ·obtain⟨x,hx,-,htk⟩:=aQ (show i < xs.length by omega)
  have hm:=bf (List.mem_of_getElem? hx)
  have hx2:Sz.sz x=Sz.sz x.s:=rfl
  refine vs ?_
  refine bX r hx rfl ?_
  rintro b o _ Fi a ⟨v0,rfl,r0⟩ _
  (repeat' first|refine vs ?_|((with_reducible refine ay kJ ?_);(refine aG (sF x.s (by omega) _ _ _ ⟨_,rfl,ah⟩) ?_;rintro _ h2 ⟨e2,_,G2,rfl,⟨w2,rfl,q2⟩,o2⟩;have n2:=e2.1;(try simp only[aD,aN] at n2)))|fail)
  have hlen:(xs.take i).length=i:=by rw[List.length_take];omega
  refine app1 (n:=h.n) (xs:=xs.take i) (Fx:=G) (a:=x) ah ⟨_,rfl,ah⟩ (gH (aZ) (aZ:Own (h1.n+1) _ G2) (by omega) jy) aL rfl ?_ ?_ ?_
  ·rw[hlen];omega
  ·rw[hlen];omega
  intro u' h' F' ek kp r' o'
  (repeat' first|refine vs ?_|fail)
  exact⟨by omega,u',F',rfl,by omega,ek h aA (Nat.le_refl _),by rw[htk];exact r',o'⟩
 ·(repeat' first|refine vs ?_|fail)
  exact⟨rfl,u,rfl,e1,G,by rw[show i=xs.length by omega,List.take_length] at ru;exact ru,ou⟩
theorem aeD (x:bV) (hs:Sz.sz x≤67108864):dJ bV Tryz.prog Jh x:=by
 rintro cs F h ⟨v0,rfl,r0⟩
 have hx2:Sz.sz x=Sz.sz x.s:=rfl
 refine afB _ ?_
 unfold PG
 (repeat' first|refine vs ?_|((with_reducible refine ay lC ?_);(refine aG (sU x.s (by omega) _ _ _ ⟨_,rfl,ah⟩) ?_;rintro _ h2 ⟨e2,_,G2,rfl,⟨w2,rfl,q2⟩,o2⟩;have n2:=e2.1;(try simp only[aD,aN] at n2)))|fail)
 exact⟨rfl,_,rfl,aA,_,_,rfl,⟨_,rfl,ah⟩,aZ⟩
end Go.Proofs.YtekfdoknfcedpaaGreat
end
section
set_option linter.unusedSimpArgs false
set_option linter.unusedVariables false
set_option maxHeartbeats 2000000
namespace Go.Proofs.YtekfdoknfcedpaaGreat
open Go Go.Ab
section
def ag4 (x0:AV):Prog:=.op (.aW 20 0 [] []) fun a=>.loop [a,.int .i64 0] (fun a=>Ln 0 x0 fun b=>Bn .lss (g a 1) b fun b=>.ite b (Ix 20 x0 (g a 1) fun b=>Ld 20 b fun b=>Cl Jh [b] fun b=>.op (.alloc jf) fun c=>.op (.st 20 c b) fun _=>Ld 20 c fun b=>.op (.aW 20 1 jf [(0,20,b)]) fun b=>.op (.app 20 168 (g a 0) b) fun b=>Bn .add (g a 1) (.int .i64 1) fun a=>.leaf 0 [b,a]) (.leaf 2 [g a 0,g a 1])) fun a b=>ak a 1 (.leaf 1 b) (ak a 2 (.fin [.val (g b 0)]) .bad)
theorem ahh (x0:AV):CC Tryz.prog Jz [x0] (ag4 x0):=cc Tryz.func96 [0,3,4] (fun _=>[])
def PI (x0:AV):Prog:=.op (.box x0) fun a=>.op (.alloc gX) fun b=>Ld 12 a fun c=>.op (.alloc gX) fun d=>.op (.st 12 d c) fun _=>.op (.fad 2 a) fun c=>Ld 6 c fun c=>Cl lC [c] fun c=>.op (.fad 2 d) fun e=>.op (.st 6 e c) fun _=>Lg 10 a fun a=>Cl vF [a] fun a=>Sg 10 d a fun _=>Ld 12 d fun a=>.op (.st 12 b a) fun _=>.fin [.cn 12 b]
theorem afC (x0:AV):CC Tryz.prog CX [x0] (PI x0):=cc Tryz.func95
end
theorem agC (xs:List bV) (hs:xs.length+szs xs≤67108864):fI Tryz.prog Jz xs:=fun v F h r=>
 ahh _ (Kq rfl rfl (by decide) (fun x hx=>aeD x (by have:=bf hx;omega)) r (by omega))
theorem aeE (x:Task) (hs:Sz.sz x≤67108864):dJ Task Tryz.prog CX x:=by
 rintro cs F h ⟨v0,v1,F0,F1,rfl,rfl,r0,r1⟩
 have hx2:Sz.sz x=Sz.sz x.s+(x.hand.length+szs x.hand):=rfl
 refine afC _ ?_
 unfold PI
 (repeat' first|refine vs ?_|((with_reducible refine ay lC ?_);(refine aG (sU x.s (by omega) _ _ _ ⟨_,rfl,ah⟩) ?_;rintro _ h2 ⟨e2,_,G2,rfl,⟨w2,rfl,q2⟩,o2⟩;have n2:=e2.1;(try simp only[aD,aN] at n2)))|((with_reducible refine ay vF ?_);(refine aG (IB x.hand (by omega) _ _ _ ah) ?_;rintro w3 h3 ⟨e3,G3,q3,o3⟩;have n3:=e3.1;(try simp only[aD,aN] at n3)))|fail)
 exact⟨rfl,_,rfl,aA,_,_,rfl,⟨_,_,_,_,rfl,rfl,ah,ah⟩,(dA bT bT jy).1⟩
end Go.Proofs.YtekfdoknfcedpaaGreat
end
