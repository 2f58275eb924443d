import Derived.Test.YtkdjapahgmflbaaGreatDNm
import Derived.Test.YtkdjapahgmflbaaGreatDK4
set_option linter.unusedSimpArgs false
set_option linter.unusedVariables false
section
namespace Go.Proofs.YtkdjapahgmflbaaGreat
open Go Go.Ab
section
def TF (x0 x1 x2:AV):Prog:=Bn .geq x0 x1 fun a=>.gop a true (.mv x0) fun b=>.gop a true (.mv x2) fun c=>.gop a true (.bin 0 .leq b c) fun b=>Pk a b (.bool false) fun a=>.fin [.val a]
theorem ahF (x0 x1 x2:AV):CC Tryz.prog bq [x0,x1,x2] (TF x0 x1 x2):=cc Tryz.func70
def UK (x0 x1 x2:AV):Prog:=Bn .geq x0 x1 fun a=>.gop a true (.mv x0) fun b=>.gop a true (.mv x2) fun c=>.gop a true (.bin 0 .leq b c) fun b=>Pk a b (.bool false) fun a=>.fin [.val a]
theorem aiU (x0 x1 x2:AV):CC Tryz.prog bQ [x0,x1,x2] (UK x0 x1 x2):=cc Tryz.func59
def Vt (x0:AV):Prog:=.op (.mnx false [x0,.int .i64 0]) fun a=>.op (.mnx true [a,.int .i64 2147483647]) fun a=>.fin [.val a]
theorem ajG (x0:AV):CC Tryz.prog jL [x0] (Vt x0):=cc Tryz.func132
def Vm (x0:AV):Prog:=Bn .lss x0 (.int .i64 0) fun a=>.ite a (.fin [.val (.int .i64 0)]) (Bn .gtr x0 (.int .i64 2147483647) fun a=>.ite a (.fin [.val (.int .i64 2147483647)]) (.fin [.val x0]))
theorem ajz (x0:AV):CC Tryz.prog jv [x0] (Vm x0):=cc Tryz.func392
def Vu (x0 x1:AV):Prog:=Cl jL [x0] fun a=>Cl jL [x1] fun b=>Bn .add a b fun a=>Cl jL [a] fun a=>.fin [.val a]
theorem ajH (x0 x1:AV):CC Tryz.prog xU [x0,x1] (Vu x0 x1):=cc Tryz.func134
def Vn (x0 x1:AV):Prog:=Cl jv [x0] fun a=>Cl jv [x1] fun b=>Bn .add a b fun a=>Cl jv [a] fun a=>.fin [.val a]
theorem ajA (x0 x1:AV):CC Tryz.prog xR [x0,x1] (Vn x0 x1):=cc Tryz.func385
end
def inB (a lo hi:Int):Bool:=decide (lo≤a∧a≤hi)
theorem dx {a lo hi:Int} (h:inB a lo hi=true):lo≤a∧a≤hi:=by simpa[inB] using h
theorem dz {a lo hi:Int} (h:inB a lo hi=false): ¬ (lo≤a∧a≤hi):=by simpa[inB] using h
theorem jr {h:AH} {a lo hi:Int}:aM Tryz.prog bQ [.int .i64 a,.int .i64 lo,.int .i64 hi] h (.bool (inB a lo hi)):=by
 refine reader (aiU _ _ _) (by simp only[old]) ?_
 unfold UK
 (repeat' first|refine vs ?_|(refine br ?_ ?_<;>first|exact bx|intro _)|fail)
 all_goals(refine pb ?_;simp[inB];omega)
theorem eZ {h:AH} {a lo hi:Int}:aM Tryz.prog bq [.int .i64 a,.int .i64 lo,.int .i64 hi] h (.bool (inB a lo hi)):=by
 refine reader (ahF _ _ _) (by simp only[old]) ?_
 unfold TF
 (repeat' first|refine vs ?_|(refine br ?_ ?_<;>first|exact bx|intro _)|fail)
 all_goals(refine pb ?_;simp[inB];omega)
def cap (n:Int):Int:=min (max n 0) 2147483647
theorem mD (n:Int):0≤cap n∧cap n≤2147483647:=by unfold cap;omega
theorem AL {h:AH} {a:Int}:aM Tryz.prog jL [.int .i64 a] h (.int .i64 (cap a)):=by
 refine reader (ajG _) (by simp only[old]) ?_
 unfold Vt
 (repeat' first|refine vs ?_|fail)
 exact pi rfl
theorem AJ {h:AH} {a:Int}:aM Tryz.prog jv [.int .i64 a] h (.int .i64 (cap a)):=by
 refine reader (ajz _) (by simp only[old]) ?_
 unfold Vm
 (repeat' first|refine vs ?_|(refine br ?_ ?_<;>first|exact bx|intro _)|fail)
 all_goals(refine pi ?_;unfold cap;omega)
def iK (a b:Int):Int:=cap (cap a+cap b)
theorem Vh {h:AH} {a b:Int}:aM Tryz.prog xU [.int .i64 a,.int .i64 b] h (.int .i64 (iK a b)):=by
 refine reader (ajH _ _) (by simp only[old]) ?_
 unfold Vu
 have:=mD a;have:=mD b
 (repeat' first|refine vs ?_|((with_reducible refine aA jL ?_);refine aJ AL ?_)|fail)
 exact pi rfl
theorem Vf {h:AH} {a b:Int}:aM Tryz.prog xR [.int .i64 a,.int .i64 b] h (.int .i64 (iK a b)):=by
 refine reader (ajA _ _) (by simp only[old]) ?_
 unfold Vn
 have:=mD a;have:=mD b
 (repeat' first|refine vs ?_|((with_reducible refine aA jv ?_);refine aJ AJ ?_)|fail)
 exact pi rfl
end Go.Proofs.YtkdjapahgmflbaaGreat
end
section
namespace Go.Proofs.YtkdjapahgmflbaaGreat
open Go Go.Ab
section
def TQ (x0:AV):Prog:=.loop [.int .i64 0] (fun a=>Ln 1 x0 fun b=>Bn .lss (g a 0) b fun b=>.ite b (.op (.jR x0 (g a 0)) fun b=>Bn .lss b (.int .u8 97) fun b=>.gop b false (.mv x0) fun c=>.gop b false (.mv (g a 0)) fun d=>.gop b false (.jR c d) fun c=>.gop b false (.bin 0 .gtr c (.int .u8 122)) fun c=>Pk b (.bool true) c fun b=>.ite b (.fin [.val (.bool false)]) (Bn .add (g a 0) (.int .i64 1) fun a=>.leaf 0 [a])) (.leaf 2 [g a 0])) fun a b=>aB a 1 (.leaf 1 b) (aB a 2 (Ln 1 x0 fun a=>Cl bq [a,.int .i64 1,.int .i64 8] fun a=>.fin [.val a]) .bad)
theorem ahO (x0:AV):CC Tryz.prog sP [x0] (TQ x0):=cc Tryz.func415 [0,3] (fun _=>[])
def SV (x0:AV):Prog:=.loop [.int .i64 0] (fun a=>Ln 1 x0 fun b=>Bn .lss (g a 0) b fun b=>.ite b (.op (.jR x0 (g a 0)) fun b=>Bn .lss b (.int .u8 97) fun b=>.gop b false (.mv x0) fun c=>.gop b false (.mv (g a 0)) fun d=>.gop b false (.jR c d) fun c=>.gop b false (.bin 0 .gtr c (.int .u8 122)) fun c=>Pk b (.bool true) c fun b=>.ite b (.fin [.val (.bool false)]) (Bn .add (g a 0) (.int .i64 1) fun a=>.leaf 0 [a])) (.leaf 2 [g a 0])) fun a b=>aB a 1 (.leaf 1 b) (aB a 2 (Ln 1 x0 fun a=>Cl bQ [a,.int .i64 1,.int .i64 8] fun a=>.fin [.val a]) .bad)
theorem ahd (x0:AV):CC Tryz.prog vv [x0] (SV x0):=cc Tryz.func413 [0,3] (fun _=>[])
def R5 (x0:AV):Prog:=.loop [.int .i64 0] (fun a=>Ln 1 x0 fun b=>Bn .lss (g a 0) b fun b=>.ite b (.op (.jR x0 (g a 0)) fun b=>.op (.conv .i64 b) fun b=>Cl bq [b,.int .i64 32,.int .i64 126] fun b=>.op (.una .not b) fun b=>.gop b false (.mv x0) fun c=>.gop b false (.mv (g a 0)) fun d=>.gop b false (.jR c d) fun c=>.gop b false (.bin 0 .eql c (.int .u8 34)) fun c=>Pk b (.bool true) c fun b=>.ite b (.fin [.val (.bool false)]) (Bn .add (g a 0) (.int .i64 1) fun a=>.leaf 0 [a])) (.leaf 2 [g a 0])) fun a b=>aB a 1 (.leaf 1 b) (aB a 2 (Ln 1 x0 fun a=>Bn .leq a (.int .i64 20) fun a=>.fin [.val a]) .bad)
theorem af2 (x0:AV):CC Tryz.prog xA [x0] (R5 x0):=cc Tryz.func416 [0,3] (fun _=>[])
def Rm (x0:AV):Prog:=.loop [.int .i64 0] (fun a=>Ln 1 x0 fun b=>Bn .lss (g a 0) b fun b=>.ite b (.op (.jR x0 (g a 0)) fun b=>Bn .lss b (.int .u8 32) fun b=>.gop b false (.mv x0) fun c=>.gop b false (.mv (g a 0)) fun d=>.gop b false (.jR c d) fun c=>.gop b false (.bin 0 .gtr c (.int .u8 126)) fun c=>Pk b (.bool true) c fun b=>.gop b false (.mv x0) fun c=>.gop b false (.mv (g a 0)) fun d=>.gop b false (.jR c d) fun c=>.gop b false (.bin 0 .eql c (.int .u8 34)) fun c=>Pk b (.bool true) c fun b=>.ite b (.fin [.val (.bool false)]) (Bn .add (g a 0) (.int .i64 1) fun a=>.leaf 0 [a])) (.leaf 2 [g a 0])) fun a b=>aB a 1 (.leaf 1 b) (aB a 2 (Ln 1 x0 fun a=>Bn .leq a (.int .i64 20) fun a=>.fin [.val a]) .bad)
theorem aff (x0:AV):CC Tryz.prog xu [x0] (Rm x0):=cc Tryz.func414 [0,3] (fun _=>[])
def TW (x0:AV):Prog:=.op (.box x0) fun a=>Lg 1 a fun b=>.ite b (Lg 0 a fun b=>Cl sP [b] fun b=>Gf b true 2 a fun c=>.gop b true (.call bq [c,.int .i64 0,.int .i64 2147483647]) fun c=>Pk b c (.bool false) fun b=>Gf b true 3 a fun a=>.gop b true (.bin 1 .eql a (.str ⟨#[]⟩)) fun a=>Pk b a (.bool false) fun a=>.fin [.val a]) (Lg 0 a fun b=>Cl sP [b] fun b=>Gf b true 3 a fun c=>.gop b true (.call xA [c]) fun c=>Pk b c (.bool false) fun b=>Gf b true 2 a fun a=>.gop b true (.bin 0 .eql a (.int .i64 0)) fun a=>Pk b a (.bool false) fun a=>.fin [.val a])
theorem ahU (x0:AV):CC Tryz.prog FB [x0] (TW x0):=cc Tryz.func405
def Td (x0:AV):Prog:=.op (.box x0) fun a=>Lg 0 a fun b=>Cl vv [b] fun b=>.op (.una .not b) fun b=>.ite b (.fin [.val (.bool false)]) (Lg 1 a fun b=>.ite b (Lg 2 a fun b=>Cl bQ [b,.int .i64 0,.int .i64 2147483647] fun b=>Gf b true 3 a fun a=>.gop b true (.bin 1 .eql a (.str ⟨#[]⟩)) fun a=>Pk b a (.bool false) fun a=>.fin [.val a]) (Lg 2 a fun b=>Bn .eql b (.int .i64 0) fun b=>Gf b true 3 a fun a=>.gop b true (.call xu [a]) fun a=>Pk b a (.bool false) fun a=>.fin [.val a]))
theorem ahj (x0:AV):CC Tryz.prog Fe [x0] (Td x0):=cc Tryz.func397
def QE (x0:AV):Prog:=.op (.box x0) fun a=>Lg 1 a fun b=>.ite b (Lg 0 a fun a=>Ln 1 a fun a=>Bn .add a (.int .i64 4) fun a=>.fin [.val a]) (Lg 0 a fun b=>Ln 1 b fun b=>Lg 3 a fun a=>Ln 1 a fun a=>Bn .add b a fun a=>.fin [.val a])
theorem adO (x0:AV):CC Tryz.prog Ea [x0] (QE x0):=cc Tryz.func123
def Qe (x0:AV):Prog:=.op (.box x0) fun a=>Lg 1 a fun b=>.ite b (Lg 0 a fun a=>Ln 1 a fun a=>Bn .add a (.int .i64 4) fun a=>.fin [.val a]) (Lg 0 a fun b=>Ln 1 b fun b=>Lg 3 a fun a=>Ln 1 a fun a=>Bn .add b a fun a=>.fin [.val a])
theorem adh (x0:AV):CC Tryz.prog DT [x0] (Qe x0):=cc Tryz.func382
end
def qZ (c:UInt8):Prop:=97≤(c.toNat:Int)∧(c.toNat:Int)≤122
def wo (s:ByteArray):Prop:=(∀ c∈bys s,qZ c)∧1≤(s.size:Int)∧(s.size:Int)≤8
theorem Sr {h:AH} {s:ByteArray} (hs:s.size≤maxLen):aM Tryz.prog sP [.str s] h (.bool (bp (wo s))):=by
 refine reader (ahO _) (by simp only[old]) ?_
 unfold TQ
 have hs:s.size≤9223372036854775807:=hs
 have hl:=BF s
 refine aT s.size (fun i vs h1=>vs=[.int .i64 (i:Int)]∧i≤s.size∧h1=h∧cu (bys s) (fun _=>qZ) i) ⟨rfl,Nat.zero_le _,rfl,up0⟩ ?_
 rintro i vs h1 _ ⟨rfl,hi,rfl,hu⟩
 simp only[g0]
 (repeat' first|refine vs ?_|(refine br ?_ ?_<;>first|exact bx|intro _)|((with_reducible refine aA bq ?_);refine aJ eZ ?_)|(refine sx ?_;intro _ _)|fail)
 ·exact pf fun k=>jP (by assumption) (by unfold qZ;omega) k.1
 ·exact pf fun k=>jP (by assumption) (by unfold qZ;omega) k.1
 ·exact⟨by omega,rfl,by omega,rfl,upS hu (by assumption) (by unfold qZ;omega)⟩
 ·have e:i=(bys s).length:=by omega
  rw[e] at hu
  exact pb (Nj (by simp only[inB,decide_eq_true_eq,wo];exact⟨fun k=>⟨fV hu,k⟩,fun k=>k.2⟩))
theorem Sk {h:AH} {s:ByteArray} (hs:s.size≤maxLen):aM Tryz.prog vv [.str s] h (.bool (bp (wo s))):=by
 refine reader (ahd _) (by simp only[old]) ?_
 unfold SV
 have hs:s.size≤9223372036854775807:=hs
 have hl:=BF s
 refine aT s.size (fun i vs h1=>vs=[.int .i64 (i:Int)]∧i≤s.size∧h1=h∧cu (bys s) (fun _=>qZ) i) ⟨rfl,Nat.zero_le _,rfl,up0⟩ ?_
 rintro i vs h1 _ ⟨rfl,hi,rfl,hu⟩
 simp only[g0]
 (repeat' first|refine vs ?_|(refine br ?_ ?_<;>first|exact bx|intro _)|((with_reducible refine aA bQ ?_);refine aJ jr ?_)|(refine sx ?_;intro _ _)|fail)
 ·exact pf fun k=>jP (by assumption) (by unfold qZ;omega) k.1
 ·exact pf fun k=>jP (by assumption) (by unfold qZ;omega) k.1
 ·exact⟨by omega,rfl,by omega,rfl,upS hu (by assumption) (by unfold qZ;omega)⟩
 ·have e:i=(bys s).length:=by omega
  rw[e] at hu
  exact pb (Nj (by simp only[inB,decide_eq_true_eq,wo];exact⟨fun k=>⟨fV hu,k⟩,fun k=>k.2⟩))
def vZ (c:UInt8):Prop:=32≤(c.toNat:Int)∧(c.toNat:Int)≤126∧(c.toNat:Int)≠34
def GA (s:ByteArray):Prop:=(∀ c∈bys s,vZ c)∧(s.size:Int)≤20
theorem QO {h : AH} {s : ByteArray} (hs : s.size ≤ maxLen) : aM Tryz.prog xA [.str s] h (.bool (bp (GA s))) := by
  refine reader (af2 _) (by simp only [old]) ?_
  unfold R5
  have hs : s.size ≤ 9223372036854775807 := hs
  have hl := BF s
  refine aT s.size (fun i vs h1 => vs = [.int .i64 (i : Int)] ∧ i ≤ s.size ∧ h1 = h ∧ cu (bys s) (fun _ => vZ) i) ⟨rfl, Nat.zero_le _, rfl, up0⟩ ?_
  rintro i vs h1 _ ⟨rfl, hi, rfl, hu⟩
  simp only [g0]
  (repeat' first|refine vs ?_|(refine br ?_ ?_<;>first|exact bx|intro _)|((with_reducible refine aA bq ?_);(refine bU eZ ?_ ?_ <;> intro hb <;> first|replace hb := dx hb|replace hb := dz hb))|(refine sx ?_;intro _ _)|fail)
  all_goals first
    | exact pf fun k => jP (by assumption) (by unfold vZ; omega) k.1
    | exact ⟨by omega, rfl, by omega, rfl, upS hu (by assumption) (by unfold vZ; omega)⟩
    | (have e : i = (bys s).length := by omega
       rw [e] at hu
       first|exact pt ⟨fV hu, by omega⟩|exact pf fun k => by have := k.2; omega)
theorem QI {h : AH} {s : ByteArray} (hs : s.size ≤ maxLen) : aM Tryz.prog xu [.str s] h (.bool (bp (GA s))) := by
  refine reader (aff _) (by simp only [old]) ?_
  unfold Rm
  have hs : s.size ≤ 9223372036854775807 := hs
  have hl := BF s
  refine aT s.size (fun i vs h1 => vs = [.int .i64 (i : Int)] ∧ i ≤ s.size ∧ h1 = h ∧ cu (bys s) (fun _ => vZ) i) ⟨rfl, Nat.zero_le _, rfl, up0⟩ ?_
  rintro i vs h1 _ ⟨rfl, hi, rfl, hu⟩
  simp only [g0]
  (repeat' first|refine vs ?_|(refine br ?_ ?_<;>first|exact bx|intro _)|(refine sx ?_;intro _ _)|fail)
  all_goals first
    | exact pf fun k => jP (by assumption) (by unfold vZ; omega) k.1
    | exact ⟨by omega, rfl, by omega, rfl, upS hu (by assumption) (by unfold vZ; omega)⟩
    | (have e : i = (bys s).length := by omega
       rw [e] at hu
       first|exact pt ⟨fV hu, by omega⟩|exact pf fun k => by have := k.2; omega)
def empty:ByteArray:=⟨#[]⟩
def qO (a:Attr):Prop:=wo a.key∧((a.num=true∧(0≤a.n∧a.n≤2147483647)∧a.text=empty)∨(a.num=false∧a.n=0∧GA a.text))
theorem agP {h:AH} {a:Attr} (ok:Cel.ok a):aM Tryz.prog FB [.agg a.cs] h (.bool (bp (qO a))):=by
 refine reader (ahU _) (by simp only[old]) ?_
 unfold TW
 obtain⟨k1,k2,k3⟩:=ok
 have k1:a.key.size≤maxLen:=k1
 have k3:a.text.size≤maxLen:=k3
 (repeat' first|refine vs ?_|(refine br ?_ ?_<;>first|exact bx|intro _)|((with_reducible refine aA sP ?_);(refine aS (Sr k1) ?_ ?_<;>intro hn))|((with_reducible refine aA xA ?_);(refine aS (QO k3) ?_ ?_<;>intro hp))|((with_reducible refine aA bq ?_);(refine bU eZ ?_ ?_<;>intro hb<;>first|replace hb:=dx hb|replace hb:=dz hb))|fail)
 all_goals first
  |(refine pt ?_;unfold qO;simp_all [empty];done)
  |(refine pf ?_;unfold qO;simp_all [empty];done)
  |(refine pf ?_;unfold qO;simp_all [empty];intros;omega)
theorem agp {h:AH} {a:Attr} (ok:Cel.ok a):aM Tryz.prog Fe [.agg a.cs] h (.bool (bp (qO a))):=by
 refine reader (ahj _) (by simp only[old]) ?_
 unfold Td
 obtain⟨k1,k2,k3⟩:=ok
 have k1:a.key.size≤maxLen:=k1
 have k3:a.text.size≤maxLen:=k3
 (repeat' first|refine vs ?_|(refine br ?_ ?_<;>first|exact bx|intro _)|((with_reducible refine aA vv ?_);(refine aS (Sk k1) ?_ ?_<;>intro hn))|((with_reducible refine aA xu ?_);(refine aS (QI k3) ?_ ?_<;>intro hp))|((with_reducible refine aA bQ ?_);(refine bU jr ?_ ?_<;>intro hb<;>first|replace hb:=dx hb|replace hb:=dz hb))|fail)
 all_goals first
  |(refine pt ?_;unfold qO;simp_all [empty];done)
  |(refine pf ?_;unfold qO;simp_all [empty];done)
  |(refine pf ?_;unfold qO;simp_all [empty];intros;omega)
def oV (a:Attr):Int:=if a.num=true then a.key.size+4 else a.key.size+a.text.size
theorem acU {h:AH} {a:Attr} (hs:Sz.sz a≤67108864):aM Tryz.prog Ea [.agg a.cs] h (.int .i64 (oV a)):=by
 refine reader (adO _) (by simp only[old]) ?_
 unfold QE
 have hs:a.key.size+a.text.size≤67108864:=hs
 (repeat' first|refine vs ?_|(refine br ?_ ?_<;>first|exact bx|intro _)|fail)
 all_goals exact pi (by simp[oV, *])
theorem acB {h:AH} {a:Attr} (hs:Sz.sz a≤67108864):aM Tryz.prog DT [.agg a.cs] h (.int .i64 (oV a)):=by
 refine reader (adh _) (by simp only[old]) ?_
 unfold Qe
 have hs:a.key.size+a.text.size≤67108864:=hs
 (repeat' first|refine vs ?_|(refine br ?_ ?_<;>first|exact bx|intro _)|fail)
 all_goals exact pi (by simp[oV, *])
end Go.Proofs.YtkdjapahgmflbaaGreat
end
section
namespace Go.Proofs.YtkdjapahgmflbaaGreat
open Go Go.Ab
section
def R9 (x0:AV):Prog:=Ln 0 x0 fun a=>.loop [.int .i64 0] (fun b=>Bn .lss (g b 0) a fun a=>.ite a (Ix 4 x0 (g b 0) fun a=>Ld 4 a fun a=>.op (.alloc [.str ⟨#[]⟩,.bool false,.int .i64 0,.str ⟨#[]⟩]) fun c=>.op (.st 4 c a) fun _=>Ld 4 c fun a=>Cl FB [a] fun a=>.op (.una .not a) fun a=>.gop a false (.mv (g b 0)) fun d=>.gop a false (.bin 0 .gtr d (.int .i64 0)) fun d=>.gop a false (.mv d) fun d=>.gop d true (.mv x0) fun e=>.gop d true (.mv (g b 0)) fun f=>.gop d true (.bin 0 .sub f (.int .i64 1)) fun f=>.gop d true (.idx 4 e f) fun e=>Gf d true 0 e fun e=>Gf d true 0 c fun c=>.gop d true (.bin 1 .geq e c) fun c=>.gop a false (.pick d c (.bool false)) fun c=>Pk a (.bool true) c fun a=>.ite a (.fin [.val (.bool false)]) (Bn .add (g b 0) (.int .i64 1) fun a=>.leaf 0 [a])) (.leaf 2 [g b 0])) fun a b=>aB a 1 (.leaf 1 b) (aB a 2 (Ln 0 x0 fun a=>Bn .leq a (.int .i64 4) fun a=>.fin [.val a]) .bad)
theorem af6 (x0:AV):CC Tryz.prog EN [x0] (R9 x0):=cc Tryz.func373 [0,5,6,7] (fun r=>if r=4 then[(0,[]),(1,[]),(2,[]),(3,[]),(4,[]),(5,[]),(6,[]),(7,[]),(8,[]),(9,[]),(10,[]),(11,[]),(12,[]),(13,[]),(14,[]),(15,[]),(16,[]),(17,[])] else[])
def Rs (x0:AV):Prog:=.loop [.int .i64 0] (fun a=>Ln 0 x0 fun b=>Bn .lss (g a 0) b fun b=>.ite b (Ix 4 x0 (g a 0) fun b=>Ld 4 b fun b=>Cl Fe [b] fun b=>.op (.una .not b) fun b=>.gop b false (.mv (g a 0)) fun c=>.gop b false (.bin 0 .gtr c (.int .i64 0)) fun c=>.gop b false (.mv c) fun c=>.gop c true (.mv x0) fun d=>.gop c true (.mv (g a 0)) fun e=>.gop c true (.bin 0 .sub e (.int .i64 1)) fun e=>.gop c true (.idx 4 d e) fun d=>Gf c true 0 d fun d=>.gop c true (.mv x0) fun e=>.gop c true (.mv (g a 0)) fun f=>.gop c true (.idx 4 e f) fun e=>Gf c true 0 e fun e=>.gop c true (.bin 1 .geq d e) fun d=>.gop b false (.pick c d (.bool false)) fun c=>Pk b (.bool true) c fun b=>.ite b (.fin [.val (.bool false)]) (Bn .add (g a 0) (.int .i64 1) fun a=>.leaf 0 [a])) (.leaf 2 [g a 0])) fun a b=>aB a 1 (.leaf 1 b) (aB a 2 (Ln 0 x0 fun a=>Bn .leq a (.int .i64 4) fun a=>.fin [.val a]) .bad)
theorem afk (x0:AV):CC Tryz.prog Eo [x0] (Rs x0):=cc Tryz.func347 [0,3] (fun r=>if r=4 then[(0,[]),(1,[]),(2,[]),(3,[]),(4,[]),(5,[]),(6,[]),(7,[]),(8,[]),(9,[]),(10,[]),(11,[]),(12,[]),(13,[]),(14,[]),(15,[]),(16,[]),(17,[]),(18,[]),(19,[]),(20,[]),(21,[]),(22,[]),(23,[])] else[])
def TN (x0:AV):Prog:=.op (.box x0) fun a=>Lg 5 a fun a=>Ln 0 a fun b=>.loop [.int .i64 12,.int .i64 0] (fun c=>Bn .lss (g c 1) b fun b=>.ite b (Ix 4 a (g c 1) fun a=>Ld 4 a fun a=>.op (.alloc [.str ⟨#[]⟩,.bool false,.int .i64 0,.str ⟨#[]⟩]) fun b=>.op (.st 4 b a) fun _=>Ld 4 b fun a=>Cl Ea [a] fun a=>Bn .add (g c 0) a fun a=>Bn .add (g c 1) (.int .i64 1) fun b=>.leaf 0 [a,b]) (.leaf 2 [g c 0,g c 1])) fun a b=>aB a 1 (.leaf 1 b) (aB a 2 (.fin [.val (g b 0)]) .bad)
theorem ahM (x0:AV):CC Tryz.prog kJ [x0] (TN x0):=cc Tryz.func36 [3,7,8,9] (fun _=>[])
def SQ (x0:AV):Prog:=.op (.box x0) fun a=>.loop [.int .i64 12,.int .i64 0] (fun b=>Lg 5 a fun c=>Ln 0 c fun c=>Bn .lss (g b 1) c fun c=>.ite c (Lg 5 a fun a=>Ix 4 a (g b 1) fun a=>Ld 4 a fun a=>Cl DT [a] fun a=>Bn .add (g b 0) a fun a=>Bn .add (g b 1) (.int .i64 1) fun b=>.leaf 0 [a,b]) (.leaf 2 [g b 0,g b 1])) fun a b=>aB a 1 (.leaf 1 b) (aB a 2 (.fin [.val (g b 0)]) .bad)
theorem ahb (x0:AV):CC Tryz.prog kI [x0] (SQ x0):=cc Tryz.func329 [1,3,4] (fun _=>[])
def TM (x0:AV):Prog:=.op (.box x0) fun a=>Lg 0 a fun b=>Cl bq [b,.int .i64 1,.int .i64 999] fun b=>Gf b true 1 a fun c=>.gop b true (.call bq [c,.int .i64 1,.int .i64 999]) fun c=>Pk b c (.bool false) fun b=>Gf b true 3 a fun c=>.gop b true (.call bq [c,.int .i64 0,.int .i64 99999]) fun c=>Pk b c (.bool false) fun b=>Gf b true 2 a fun c=>Gf b true 3 a fun d=>.gop b true (.call bq [c,.int .i64 0,d]) fun c=>Pk b c (.bool false) fun b=>Gf b true 5 a fun c=>.gop b true (.call EN [c]) fun c=>Pk b c (.bool false) fun b=>.gop b true (.ldn 6 a) fun a=>.gop b true (.call kJ [a]) fun a=>.gop b true (.bin 0 .leq a (.int .i64 96)) fun a=>Pk b a (.bool false) fun a=>.fin [.val a]
theorem ahL (x0:AV):CC Tryz.prog sO [x0] (TM x0):=cc Tryz.func313
def SN (x0:AV):Prog:=.op (.box x0) fun a=>Lg 0 a fun b=>Cl bQ [b,.int .i64 1,.int .i64 999] fun b=>Gf b true 1 a fun c=>.gop b true (.call bQ [c,.int .i64 1,.int .i64 999]) fun c=>Pk b c (.bool false) fun b=>Gf b true 2 a fun c=>.gop b true (.call bQ [c,.int .i64 0,.int .i64 99999]) fun c=>Pk b c (.bool false) fun b=>Gf b true 3 a fun c=>Gf b true 2 a fun d=>.gop b true (.call bQ [c,d,.int .i64 99999]) fun c=>Pk b c (.bool false) fun b=>Gf b true 5 a fun c=>.gop b true (.call Eo [c]) fun c=>Pk b c (.bool false) fun b=>.gop b true (.ldn 6 a) fun a=>.gop b true (.call kI [a]) fun a=>.gop b true (.bin 0 .leq a (.int .i64 96)) fun a=>Pk b a (.bool false) fun a=>.fin [.val a]
theorem aha (x0:AV):CC Tryz.prog sM [x0] (SN x0):=cc Tryz.func267
def R4 (x0:AV):Prog:=Ln 0 x0 fun a=>.loop [.int .i64 0,.int .i64 0] (fun b=>Bn .lss (g b 1) a fun a=>.ite a (Ix 6 x0 (g b 1) fun a=>Ld 6 a fun a=>.op (.alloc iZ) fun c=>.op (.st 6 c a) fun _=>Ld 6 c fun a=>Cl kJ [a] fun a=>Bn .add (g b 0) a fun a=>Bn .add (g b 1) (.int .i64 1) fun b=>.leaf 0 [a,b]) (.leaf 2 [g b 0,g b 1])) fun a b=>aB a 1 (.leaf 1 b) (aB a 2 (.fin [.val (g b 0)]) .bad)
theorem af0 (x0:AV):CC Tryz.prog EL [x0] (R4 x0):=cc Tryz.func137 [3,6,7,8] (fun _=>[])
def Rl (x0:AV):Prog:=.loop [.int .i64 0,.int .i64 0] (fun a=>Ln 0 x0 fun b=>Bn .lss (g a 1) b fun b=>.ite b (Ix 6 x0 (g a 1) fun b=>Ld 6 b fun b=>Cl kI [b] fun b=>Bn .add (g a 0) b fun b=>Bn .add (g a 1) (.int .i64 1) fun a=>.leaf 0 [b,a]) (.leaf 2 [g a 0,g a 1])) fun a b=>aB a 1 (.leaf 1 b) (aB a 2 (.fin [.val (g b 0)]) .bad)
theorem afe (x0:AV):CC Tryz.prog El [x0] (Rl x0):=cc Tryz.func345 [0,3,4] (fun _=>[])
end
def kge (a b:ByteArray):Bool:=!(Op.bytesLess a.toList b.toList)
def BH (l:List Attr) (i:Nat) (a:Attr):Prop:=qO a∧∀ b,0 < i→l[((i:Int) - 1).toNat]? =some b→kge b.key a.key=false
def ME (l:List Attr):Prop:=(∀ i a,l[i]? =some a→BH l i a)∧(l.length:Int)≤4
theorem aeE {h:AH} {l:List Attr} {v:AV} {F:List Nat} (ok:∀ x∈l,Cel.ok x) (r:au h v l F):aM Tryz.prog EN [v] h (.bool (bp (ME l))):=by
 refine reader (af6 _) (by simp only[old]) ?_
 unfold R9
 have hsm:=r.small
 refine vs ?_
 refine aT l.length (fun i vs h1=>vs=[.int .i64 (i:Int)]∧i≤l.length∧Ext h h1∧cu l (BH l) i) ⟨rfl,Nat.zero_le _,Ext.refl _,up0⟩ ?_
 rintro i vs h1 _ ⟨rfl,hi,e1,hu⟩
 simp only[g0]
 refine br (fun hlt=>?_) (fun hge=>?_)
 ·obtain⟨x,hx,-,-⟩:=aP (show i < l.length by omega)
  have okx:=ok x (List.mem_of_getElem? hx)
  (repeat' first|refine vs ?_|(refine br ?_ ?_<;>first|exact bx|intro _)|((with_reducible refine aA FB ?_);(refine aS (agP okx) ?_ ?_<;>intro hn))|((with_reducible refine aY ?_);((first|refine ix ?_|(refine ku ?_;intro _ _));rintro _ _ _ _ _ ⟨rfl,rfl⟩ _))|fail)
  all_goals first
   |(refine pf fun k=>?_;have k:=k.1 i x hx;simp_all [BH,kge];done)
   |(refine⟨by omega,rfl,by omega,aD,upS hu hx ⟨hn,fun b h0 hb=>?_⟩⟩;first|(exfalso;omega)|(simp_all [kge];done))
 ·(repeat' first|refine vs ?_|(refine br ?_ ?_<;>first|exact bx|intro _)|fail)
  all_goals(have e:i=l.length:=(by omega);rw[e] at hu;first|exact pt ⟨kP hu,by omega⟩|exact pf fun k=>by have:=k.2;omega)
theorem ad5 {h:AH} {l:List Attr} {v:AV} {F:List Nat} (ok:∀ x∈l,Cel.ok x) (r:au h v l F):aM Tryz.prog Eo [v] h (.bool (bp (ME l))):=by
 refine reader (afk _) (by simp only[old]) ?_
 unfold Rs
 have hsm:=r.small
 refine aT l.length (fun i vs h1=>vs=[.int .i64 (i:Int)]∧i≤l.length∧Ext h h1∧cu l (BH l) i) ⟨rfl,Nat.zero_le _,Ext.refl _,up0⟩ ?_
 rintro i vs h1 _ ⟨rfl,hi,e1,hu⟩
 simp only[g0]
 refine vs ?_
 refine br (fun hlt=>?_) (fun hge=>?_)
 ·obtain⟨x,hx,-,-⟩:=aP (show i < l.length by omega)
  have okx:=ok x (List.mem_of_getElem? hx)
  (repeat' first|refine vs ?_|(refine br ?_ ?_<;>first|exact bx|intro _)|((with_reducible refine aA Fe ?_);(refine aS (agp okx) ?_ ?_<;>intro hn))|((with_reducible refine aY ?_);((first|refine ix ?_|(refine ku ?_;intro _ _));rintro _ _ _ _ _ ⟨rfl,rfl⟩ _))|fail)
  all_goals first
   |(refine pf fun k=>?_;have k:=k.1 i x hx;simp_all [BH,kge];done)
   |(refine⟨by omega,rfl,by omega,aD,upS hu hx ⟨hn,fun b h0 hb=>?_⟩⟩;first|(exfalso;omega)|(simp_all [kge];done))
 ·(repeat' first|refine vs ?_|(refine br ?_ ?_<;>first|exact bx|intro _)|fail)
  all_goals(have e:i=l.length:=(by omega);rw[e] at hu;first|exact pt ⟨kP hu,by omega⟩|exact pf fun k=>by have:=k.2;omega)
def dB {α:Type} (f:α→Int):List α→Int
 |[]=>0
 |x::l=>f x+dB f l
theorem Gh {α:Type} (f:α→Int):∀ l r:List α,dB f (l++r)=dB f l+dB f r
 |[],r=>by simp[dB]
 |x::l,r=>by simp only[List.cons_append,dB,Gh f l];omega
theorem oP {α:Type} (f:α→Int) {xs:List α} {i:Nat} {x:α} (ht:xs.take (i+1)=xs.take i++[x]):dB f (xs.take (i+1))=dB f (xs.take i)+f x:=by rw[ht,Gh];simp[dB]
theorem qF {α:Type} [Sz α] {f:α→Int} {a b:Int} (hb:∀ x,0≤f x∧f x≤a+b * (Sz.sz x:Nat)):∀ l:List α,0≤dB f l∧dB f l≤a * l.length+b * (szs l:Nat)
 |[]=>by simp[dB,szs]
 |x::l=>by
  have h1:=hb x;have h2:=qF hb l
  simp only[dB,szs,List.length_cons]
  have e1:a * ((l.length+1:Nat):Int)=a * l.length+a:=by rw[Int.natCast_add,Int.mul_add];simp
  have e2:b * ((Sz.sz x+szs l:Nat):Int)=b * (Sz.sz x:Nat)+b * (szs l:Nat):=by rw[Int.natCast_add,Int.mul_add]
  omega
theorem AQ (a:Attr):0≤oV a∧oV a≤4+1 * (Sz.sz a:Nat):=by
 have:Sz.sz a=a.key.size+a.text.size:=rfl
 unfold oV;split<;>omega
def dW (s:Span):Int:=12+dB oV s.attrs
theorem AB (s:Span):0≤dW s∧dW s≤12+4 * (Sz.sz s:Nat):=by
 have:Sz.sz s=s.attrs.length+szs s.attrs:=rfl
 have:=qF AQ s.attrs
 unfold dW;omega
theorem sK {h:AH} {s:Span} {v:AV} {F:List Nat} (hs:Sz.sz s≤67108864) (r:au h v s.attrs F):aM Tryz.prog kJ [.agg (s.cs v)] h (.int .i64 (dW s)):=by
 refine reader (ahM _) (by simp only[old]) ?_
 unfold TN
 have hsz:Sz.sz s=s.attrs.length+szs s.attrs:=rfl
 have hsm:=r.small
 refine vs ?_
 refine aT s.attrs.length (fun i vs h1=>vs=[.int .i64 (12+dB oV (s.attrs.take i)),.int .i64 (i:Int)]∧i≤s.attrs.length∧Ext h h1) ⟨rfl,Nat.zero_le _,aD⟩ ?_
 rintro i vs h1 _ ⟨rfl,hi,e1⟩
 simp only[g0,g1]
 refine br (fun hlt=>?_) (fun hge=>?_)
 ·obtain⟨x,hx,-,ht⟩:=aP (show i < s.attrs.length by omega)
  have h2:=AQ x
  have h3:=qF AQ (s.attrs.take i)
  have h4:=jJ s.attrs i
  have h5:=bC (List.mem_of_getElem? hx)
  rw[List.length_take] at h3
  (repeat' first|refine vs ?_|((with_reducible refine aA Ea ?_);refine aJ (acU (by omega)) ?_)|((with_reducible refine aY ?_);((refine ix ?_);rintro _ _ _ _ _ ⟨rfl,rfl⟩ _))|fail)
  exact⟨by omega,by rw[oP _ ht,Int.add_assoc],by omega,aD⟩
 ·(repeat' first|refine vs ?_|fail)
  refine pi ?_
  rw[show i=s.attrs.length by omega,List.take_length];rfl
theorem sJ {h:AH} {s:Span} {v:AV} {F:List Nat} (hs:Sz.sz s≤67108864) (r:au h v s.attrs F):aM Tryz.prog kI [.agg (s.cs v)] h (.int .i64 (dW s)):=by
 refine reader (ahb _) (by simp only[old]) ?_
 unfold SQ
 have hsz:Sz.sz s=s.attrs.length+szs s.attrs:=rfl
 have hsm:=r.small
 refine vs ?_
 refine aT s.attrs.length (fun i vs h1=>vs=[.int .i64 (12+dB oV (s.attrs.take i)),.int .i64 (i:Int)]∧i≤s.attrs.length∧Ext (h.push ⟨s.cs v,0,0⟩) h1) ⟨rfl,Nat.zero_le _,aD⟩ ?_
 rintro i vs h1 _ ⟨rfl,hi,e1⟩
 simp only[g0,g1]
 refine vs ?_
 refine br (fun hlt=>?_) (fun hge=>?_)
 ·obtain⟨x,hx,-,ht⟩:=aP (show i < s.attrs.length by omega)
  have h2:=AQ x
  have h3:=qF AQ (s.attrs.take i)
  have h4:=jJ s.attrs i
  have h5:=bC (List.mem_of_getElem? hx)
  rw[List.length_take] at h3
  (repeat' first|refine vs ?_|((with_reducible refine aA DT ?_);refine aJ (acB (by omega)) ?_)|((with_reducible refine aY ?_);((refine ix ?_);rintro _ _ _ _ _ ⟨rfl,rfl⟩ _))|fail)
  exact⟨by omega,by rw[oP _ ht,Int.add_assoc],by omega,aD⟩
 ·(repeat' first|refine vs ?_|fail)
  refine pi ?_
  rw[show i=s.attrs.length by omega,List.take_length];rfl
def qG (s:Span):Prop:=(1≤s.trace∧s.trace≤999)∧(1≤s.id∧s.id≤999)∧(0≤s.start∧s.start≤s.fin∧s.fin≤99999)∧ME s.attrs∧dW s≤96
theorem KA {h:AH} {s:Span} {v:AV} {F:List Nat} (ok:Cel.ok s) (hs:Sz.sz s≤67108864) (r:au h v s.attrs F):aM Tryz.prog sO [.agg (s.cs v)] h (.bool (bp (qG s))):=by
 refine reader (ahL _) (by simp only[old]) ?_
 unfold TM
 obtain⟨k1,k2,k3,k4,k5⟩:=ok
 (repeat' first|refine vs ?_|(refine br ?_ ?_<;>first|exact bx|intro _)|((with_reducible refine aA bq ?_);(refine bU eZ ?_ ?_<;>intro hb<;>first|replace hb:=dx hb|replace hb:=dz hb))|((with_reducible refine aA EN ?_);(refine aS (aeE k5 ah) ?_ ?_<;>intro hn))|((with_reducible refine aA kJ ?_);refine aJ (sK hs ah) ?_)|fail)
 all_goals first
  |exact pt ⟨by omega,by omega,by omega,by assumption,by omega⟩
  |exact pf fun k=>by obtain⟨a1,a2,a3,a4,a5⟩:=k;first|omega|contradiction
theorem Ky {h:AH} {s:Span} {v:AV} {F:List Nat} (ok:Cel.ok s) (hs:Sz.sz s≤67108864) (r:au h v s.attrs F):aM Tryz.prog sM [.agg (s.cs v)] h (.bool (bp (qG s))):=by
 refine reader (aha _) (by simp only[old]) ?_
 unfold SN
 obtain⟨k1,k2,k3,k4,k5⟩:=ok
 (repeat' first|refine vs ?_|(refine br ?_ ?_<;>first|exact bx|intro _)|((with_reducible refine aA bQ ?_);(refine bU jr ?_ ?_<;>intro hb<;>first|replace hb:=dx hb|replace hb:=dz hb))|((with_reducible refine aA Eo ?_);(refine aS (ad5 k5 ah) ?_ ?_<;>intro hn))|((with_reducible refine aA kI ?_);refine aJ (sJ hs ah) ?_)|fail)
 all_goals first
  |exact pt ⟨by omega,by omega,by omega,by assumption,by omega⟩
  |exact pf fun k=>by obtain⟨a1,a2,a3,a4,a5⟩:=k;first|omega|contradiction
theorem aeB {h:AH} {l:List Span} {v:AV} {F:List Nat} (hs:l.length+szs l≤67108864) (r:au h v l F):aM Tryz.prog EL [v] h (.int .i64 (dB dW l)):=by
 refine reader (af0 _) (by simp only[old]) ?_
 unfold R4
 have hsm:=r.small
 refine vs ?_
 refine aT l.length (fun i vs h1=>vs=[.int .i64 (dB dW (l.take i)),.int .i64 (i:Int)]∧i≤l.length∧Ext h h1) ⟨rfl,Nat.zero_le _,aD⟩ ?_
 rintro i vs h1 _ ⟨rfl,hi,e1⟩
 simp only[g0,g1]
 refine br (fun hlt=>?_) (fun hge=>?_)
 ·obtain⟨x,hx,-,ht⟩:=aP (show i < l.length by omega)
  have h2:=AB x
  have h3:=qF AB (l.take i)
  have h4:=jJ l i
  have h5:=bC (List.mem_of_getElem? hx)
  rw[List.length_take] at h3
  (repeat' first|refine vs ?_|((with_reducible refine aA kJ ?_);refine aJ (sK (by omega) ah) ?_)|((with_reducible refine aY ?_);((refine ix ?_);rintro _ _ _ _ _ ⟨_,rfl,_⟩ _))|fail)
  exact⟨by omega,by rw[oP _ ht],by omega,aD⟩
 ·(repeat' first|refine vs ?_|fail)
  refine pi ?_
  rw[show i=l.length by omega,List.take_length]
theorem ad1 {h:AH} {l:List Span} {v:AV} {F:List Nat} (hs:l.length+szs l≤67108864) (r:au h v l F):aM Tryz.prog El [v] h (.int .i64 (dB dW l)):=by
 refine reader (afe _) (by simp only[old]) ?_
 unfold Rl
 have hsm:=r.small
 refine aT l.length (fun i vs h1=>vs=[.int .i64 (dB dW (l.take i)),.int .i64 (i:Int)]∧i≤l.length∧Ext h h1) ⟨rfl,Nat.zero_le _,aD⟩ ?_
 rintro i vs h1 _ ⟨rfl,hi,e1⟩
 simp only[g0,g1]
 refine vs ?_
 refine br (fun hlt=>?_) (fun hge=>?_)
 ·obtain⟨x,hx,-,ht⟩:=aP (show i < l.length by omega)
  have h2:=AB x
  have h3:=qF AB (l.take i)
  have h4:=jJ l i
  have h5:=bC (List.mem_of_getElem? hx)
  rw[List.length_take] at h3
  (repeat' first|refine vs ?_|((with_reducible refine aA kI ?_);refine aJ (sJ (by omega) ah) ?_)|((with_reducible refine aY ?_);((refine ix ?_);rintro _ _ _ _ _ ⟨_,rfl,_⟩ _))|fail)
  exact⟨by omega,by rw[oP _ ht],by omega,aD⟩
 ·(repeat' first|refine vs ?_|fail)
  refine pi ?_
  rw[show i=l.length by omega,List.take_length]
end Go.Proofs.YtkdjapahgmflbaaGreat
end
section
namespace Go.Proofs.YtkdjapahgmflbaaGreat
open Go Go.Ab
section
def Qu (x0 x1:AV):Prog:=.op (.box x0) fun a=>.op (.box x1) fun b=>Lg 0 a fun c=>Lg 0 b fun d=>Bn .eql c d fun c=>Gf c true 1 a fun d=>Gf c true 1 b fun e=>.gop c true (.bin 0 .eql d e) fun d=>Pk c d (.bool false) fun c=>Gf c true 2 a fun d=>Gf c true 2 b fun e=>.gop c true (.bin 0 .eql d e) fun d=>Pk c d (.bool false) fun c=>Gf c true 3 a fun d=>Gf c true 3 b fun e=>.gop c true (.bin 0 .eql d e) fun d=>Pk c d (.bool false) fun c=>Gf c true 4 a fun d=>Gf c true 4 b fun e=>.gop c true (.bin 2 .eql d e) fun d=>Pk c d (.bool false) fun c=>Gf c true 5 a fun a=>Gf c true 5 b fun b=>.gop c true (.call Da [a,b]) fun a=>Pk c a (.bool false) fun a=>.fin [.val a]
theorem adF (x0 x1:AV):CC Tryz.prog oI [x0,x1] (Qu x0 x1):=cc Tryz.func127
def P6 (x0 x1:AV):Prog:=.op (.box x0) fun a=>.op (.box x1) fun b=>Lg 0 a fun c=>Lg 0 b fun d=>Bn .neq c d fun c=>Gf c false 1 a fun d=>Gf c false 1 b fun e=>.gop c false (.bin 0 .neq d e) fun d=>Pk c (.bool true) d fun c=>Gf c false 2 a fun d=>Gf c false 2 b fun e=>.gop c false (.bin 0 .neq d e) fun d=>Pk c (.bool true) d fun c=>Gf c false 3 a fun d=>Gf c false 3 b fun e=>.gop c false (.bin 0 .neq d e) fun d=>Pk c (.bool true) d fun c=>Gf c false 4 a fun d=>Gf c false 4 b fun e=>.gop c false (.bin 2 .neq d e) fun d=>Pk c (.bool true) d fun c=>Gf c false 5 a fun d=>.gop c false (.len 0 d) fun d=>Gf c false 5 b fun e=>.gop c false (.len 0 e) fun e=>.gop c false (.bin 0 .neq d e) fun d=>Pk c (.bool true) d fun c=>.ite c (.fin [.val (.bool false)]) (.loop [.int .i64 0] (fun c=>Lg 5 a fun d=>Ln 0 d fun d=>Bn .lss (g c 0) d fun d=>.ite d (Lg 5 a fun a=>Ix 4 a (g c 0) fun a=>Ld 4 a fun a=>Lg 5 b fun b=>Ix 4 b (g c 0) fun b=>Ld 4 b fun b=>.op (.eqs [1,2,0,1] true a b) fun a=>.ite a (.fin [.val (.bool false)]) (Bn .add (g c 0) (.int .i64 1) fun a=>.leaf 0 [a])) (.leaf 2 [g c 0])) fun a b=>aB a 1 (.leaf 1 b) (aB a 2 (.fin [.val (.bool true)]) .bad))
theorem ac7 (x0 x1:AV):CC Tryz.prog xg [x0,x1] (P6 x0 x1):=cc Tryz.func349 [2,3,5] (fun r=>if r=6 then[(0,[]),(1,[]),(2,[]),(3,[]),(4,[]),(5,[]),(6,[]),(7,[]),(8,[]),(9,[]),(10,[])] else[])
def Ow (x0 x1:AV):Prog:=Ln 0 x0 fun a=>Ln 0 x1 fun b=>Bn .neq a b fun a=>.ite a (.fin [.val (.bool false)]) (Ln 0 x0 fun a=>.loop [.int .i64 0] (fun b=>Bn .lss (g b 0) a fun a=>.ite a (Ix 4 x0 (g b 0) fun a=>Ld 4 a fun a=>Ix 4 x1 (g b 0) fun c=>Ld 4 c fun c=>.op (.eqs [1,2,0,1] true a c) fun a=>.ite a (.fin [.val (.bool false)]) (Bn .add (g b 0) (.int .i64 1) fun a=>.leaf 0 [a])) (.leaf 2 [g b 0])) fun a b=>aB a 1 (.leaf 1 b) (aB a 2 (.fin [.val (.bool true)]) .bad))
theorem aar (x0 x1:AV):CC Tryz.prog Da [x0,x1] (Ow x0 x1):=cc Tryz.func240 [0,1,12,13] (fun r=>if r=6 then[(0,[]),(1,[]),(2,[]),(3,[]),(4,[]),(5,[]),(6,[]),(7,[]),(8,[])] else[])
end
theorem akc (x y:Attr):pR [1,2,0,1] x.cs y.cs=some (bp (x=y)):=by
 have:pR [1,2,0,1] x.cs y.cs=some (decide (x.key=y.key) && ((x.num == y.num) && (decide (x.n=y.n) && (decide (x.text=y.text) && true)))):=rfl
 rw[this]
 congr 1
 refine Nj ?_
 cases x;cases y
 simp[Attr.mk.injEq]
section
variable{P:Program} {h:AH} {Q:Nat→List AV→AH→Prop} {k:AV→Prog}
theorem Yf {x y:Attr} (h1: ¬ x=y→(k (.bool true)).awp P h Q) (h2:x=y→(k (.bool false)).awp P h Q):(Prog.op (.eqs [1,2,0,1] true (.agg x.cs) (.agg y.cs)) k).awp P h Q:=by
 simp only[Prog.awp,AOp.go,akc,if_true]
 by_cases e:x=y
 ·rw[fI e];exact h2 e
 ·rw[gu e];exact h1 e
end
theorem aaq {h:AH} {xs ys:List Attr} {v0 v1:AV} {F G:List Nat} (r:au h v0 xs F) (r':au h v1 ys G):aM Tryz.prog Da [v0,v1] h (.bool (bp (xs=ys))):=by
 refine reader (aar _ _) (by simp only[old]) ?_
 unfold Ow
 have hsm:=r.small
 refine bP r (bP r' ?_)
 (repeat' first|refine vs ?_|(refine br ?_ ?_<;>first|exact bx|intro _)|fail)
 ·exact pf (by intro k;subst k;omega)
 ·refine aT xs.length (fun i vs h1=>vs=[.int .i64 (i:Int)]∧i≤xs.length∧h1=h∧wS xs ys i) ⟨rfl,Nat.zero_le _,rfl,eu0⟩ ?_
  rintro i vs h1 _ ⟨rfl,hi,rfl,hu⟩
  simp only[g0]
  refine br (fun hlt=>?_) (fun hge=>?_)
  ·obtain⟨x,hx,-,-⟩:=aP (show i < xs.length by omega)
   obtain⟨y,hy,-,-⟩:=aP (show i < ys.length by omega)
   refine vs ?_
   refine bV r hx rfl ?_
   rintro b o _ _ a ⟨rfl,rfl⟩ _
   refine vs ?_
   refine bV r' hy rfl ?_
   rintro b' o' _ _ a' ⟨rfl,rfl⟩ _
   refine vs ?_
   refine Yf (fun e=>?_) (fun e=>?_)
   ·(repeat' first|refine vs ?_|fail)
    exact pf (Nc hx hy e)
   ·(repeat' first|refine vs ?_|fail)
    exact⟨by omega,rfl,by omega,rfl,euS hu hx hy e⟩
  ·(repeat' first|refine vs ?_|fail)
   exact pt (Nf (by rw[show i=xs.length by omega] at hu;exact hu) (by omega))
theorem DF {h:AH} {a b:Span} {v v':AV} {F F':List Nat} (r:au h v a.attrs F) (r':au h v' b.attrs F'):aM Tryz.prog oI [.agg (a.cs v),.agg (b.cs v')] h (.bool (bp (a=b))):=by
 refine reader (adF _ _) (by simp only[old]) ?_
 unfold Qu
 (repeat' first|refine vs ?_|(refine br ?_ ?_<;>first|exact bx|intro _)|((with_reducible refine aA Da ?_);(refine aS (aaq ah ah) ?_ ?_<;>intro hn))|fail)
 all_goals first
  |(refine pf ?_;rintro rfl;contradiction)
  |(refine pt ?_;cases a;cases b;simp_all;done)
theorem PO {h:AH} {a b:Span} {v v':AV} {F F':List Nat} (r:au h v a.attrs F) (r':au h v' b.attrs F'):aM Tryz.prog xg [.agg (a.cs v),.agg (b.cs v')] h (.bool (bp (a=b))):=by
 refine reader (ac7 _ _) (by simp only[old]) ?_
 unfold P6
 have hsm:=r.small
 (repeat' first|refine vs ?_|(refine br ?_ ?_<;>first|exact bx|intro _)|fail)
 all_goals first
  |(refine pf ?_;rintro rfl;contradiction)
  |skip
 refine aT a.attrs.length (fun i vs h1=>vs=[.int .i64 (i:Int)]∧i≤a.attrs.length∧Ext ((h.push ⟨a.cs v,0,0⟩).push ⟨b.cs v',0,0⟩) h1∧wS a.attrs b.attrs i) ⟨rfl,Nat.zero_le _,aD,eu0⟩ ?_
 rintro i vs h1 _ ⟨rfl,hi,e1,hu⟩
 simp only[g0]
 refine vs ?_
 refine br (fun hlt=>?_) (fun hge=>?_)
 ·obtain⟨x,hx,-,-⟩:=aP (show i < a.attrs.length by omega)
  obtain⟨y,hy,-,-⟩:=aP (show i < b.attrs.length by omega)
  (repeat' first|refine vs ?_|((with_reducible refine aY ?_);((refine ix ?_);rintro _ _ _ _ _ ⟨rfl,rfl⟩ _))|fail)
  refine Yf (fun e=>?_) (fun e=>?_)
  ·(repeat' first|refine vs ?_|fail)
   refine pf ?_
   rintro rfl
   exact Nc hx hy e rfl
  ·(repeat' first|refine vs ?_|fail)
   exact⟨by omega,rfl,by omega,aD,euS hu hx hy e⟩
 ·(repeat' first|refine vs ?_|fail)
  have e:a.attrs=b.attrs:=Nf (by rw[show i=a.attrs.length by omega] at hu;exact hu) (by omega)
  refine pt ?_
  cases a;cases b;simp_all
end Go.Proofs.YtkdjapahgmflbaaGreat
end
section
set_option maxHeartbeats 1000000
namespace Go.Proofs.YtkdjapahgmflbaaGreat
open Go Go.Ab
section
def Us (x0:AV):Prog:=.op (.box x0) fun a=>.op (.alloc l8) fun b=>.op (.alloc l8) fun c=>Lg 0 a fun d=>Sg 0 c d fun _=>Lg 1 a fun d=>Sg 1 c d fun _=>Lg 2 a fun d=>Sg 2 c d fun _=>Lg 3 a fun d=>Sg 3 c d fun _=>Lg 4 a fun a=>Cl Al [a] fun a=>Sg 4 c a fun _=>Ld 5 c fun a=>.op (.st 5 b a) fun _=>.fin [.cn 5 b]
theorem ait (x0:AV):CC Tryz.prog vB [x0] (Us x0):=cc Tryz.func163
def Uu (x0 x1:AV):Prog:=.op (.box x0) fun a=>.op (.box x1) fun b=>Lg 0 a fun c=>Lg 0 b fun d=>Bn .neq c d fun c=>.ite c (.fin [.val (.bool false)]) (Lg 1 a fun c=>Lg 1 b fun d=>Bn .neq c d fun c=>.ite c (.fin [.val (.bool false)]) (Lg 2 a fun c=>Lg 2 b fun d=>.op (.bin 1 .neq c d) fun c=>.ite c (.fin [.val (.bool false)]) (Lg 3 a fun c=>Lg 3 b fun d=>.op (.bin 1 .neq c d) fun c=>.ite c (.fin [.val (.bool false)]) (Lg 4 a fun a=>Lg 4 b fun b=>Cl Ao [a,b] fun a=>.op (.una .not a) fun a=>.ite a (.fin [.val (.bool false)]) (.fin [.val (.bool true)])))))
theorem aiv (x0 x1:AV):CC Tryz.prog xK [x0,x1] (Uu x0 x1):=cc Tryz.func176
def Ut (x0 x1:AV):Prog:=.op (.box x0) fun a=>Lg 2 a fun b=>Ln 1 b fun b=>Bn .sub x1 b fun b=>Bn .lss b (.int .i64 0) fun c=>.ite c (.fin [.val (.int .i64 (-1))]) (Lg 3 a fun c=>Ln 1 c fun c=>Bn .sub b c fun b=>Bn .lss b (.int .i64 0) fun c=>.ite c (.fin [.val (.int .i64 (-1))]) (Lg 4 a fun a=>Cl Am [a,b] fun a=>Bn .lss a (.int .i64 0) fun b=>.ite b (.fin [.val (.int .i64 (-1))]) (.fin [.val a])))
theorem aiu (x0 x1:AV):CC Tryz.prog xJ [x0,x1] (Ut x0 x1):=cc Tryz.func139
def agS (x0:AV):Prog:=Ln 0 x0 fun a=>.op (.iw 5 72 l8 a a) fun a=>.loop [.int .i64 0] (fun b=>Ln 0 x0 fun c=>Bn .lss (g b 0) c fun c=>.ite c (Ix 5 x0 (g b 0) fun c=>Ld 5 c fun c=>Cl vB [c] fun c=>Ix 5 a (g b 0) fun a=>.op (.st 5 a c) fun _=>Bn .add (g b 0) (.int .i64 1) fun a=>.leaf 0 [a]) (.leaf 2 [g b 0])) fun b c=>aB b 1 (.leaf 1 c) (aB b 2 (.fin [.val a]) .bad)
theorem ahm (x0:AV):CC Tryz.prog Al [x0] (agS x0):=cc Tryz.func273 [0,3,4] (fun _=>[])
def agU (x0 x1:AV):Prog:=Ln 0 x0 fun a=>Ln 0 x1 fun b=>Bn .neq a b fun a=>.ite a (.fin [.val (.bool false)]) (.loop [.int .i64 0] (fun a=>Ln 0 x0 fun b=>Bn .lss (g a 0) b fun b=>.ite b (Ix 5 x0 (g a 0) fun b=>Ld 5 b fun b=>Ix 5 x1 (g a 0) fun c=>Ld 5 c fun c=>Cl xK [b,c] fun b=>.op (.una .not b) fun b=>.ite b (.fin [.val (.bool false)]) (Bn .add (g a 0) (.int .i64 1) fun a=>.leaf 0 [a])) (.leaf 2 [g a 0])) fun a b=>aB a 1 (.leaf 1 b) (aB a 2 (.fin [.val (.bool true)]) .bad))
theorem ahA (x0 x1:AV):CC Tryz.prog Ao [x0,x1] (agU x0 x1):=cc Tryz.func279 [0,1,5] (fun r=>if r=6 then[(0,[]),(1,[]),(2,[]),(3,[]),(4,[]),(5,[]),(6,[]),(7,[]),(8,[]),(9,[])] else[])
def agT (x0 x1:AV):Prog:=Ln 0 x0 fun a=>Bn .sub x1 a fun a=>Bn .lss a (.int .i64 0) fun b=>.ite b (.fin [.val (.int .i64 (-1))]) (.loop [a,.int .i64 0] (fun a=>Ln 0 x0 fun b=>Bn .lss (g a 1) b fun b=>.ite b (Ix 5 x0 (g a 1) fun b=>Ld 5 b fun b=>Cl xJ [b,g a 0] fun b=>Bn .lss b (.int .i64 0) fun c=>.ite c (.fin [.val (.int .i64 (-1))]) (Bn .add (g a 1) (.int .i64 1) fun a=>.leaf 0 [b,a])) (.leaf 2 [g a 0,g a 1])) fun a b=>aB a 1 (.leaf 1 b) (aB a 2 (.fin [.val (g b 0)]) .bad))
theorem aht (x0 x1:AV):CC Tryz.prog Am [x0,x1] (agT x0 x1):=cc Tryz.func254 [0,1,5] (fun _=>[])
end
theorem alX {x y:Pol} (h:y∈x.l):SizeOf.sizeOf y < SizeOf.sizeOf x:=by
 cases x with
 |mk k n s t l=>
  have:=List.sizeOf_lt_of_mem (show y∈l from h)
  simp only[Pol.mk.sizeOf_spec];omega
theorem lF {p:Pol→Prop} (step:∀ x,(∀ y∈x.l,p y)→p x):∀ x,p x:=fun x=>
 step x fun y hy=>lF step y
termination_by x=>SizeOf.sizeOf x
decreasing_by exact alX hy
theorem toPols {xs:List Pol} (hc:∀ x∈xs,dO Pol Tryz.prog vB x) (hs:xs.length+szs xs≤1048576):gG Tryz.prog Al xs:=by
 intro v F h r
 refine ahm _ (toSx_spec rfl rfl rfl hc r ?_)
 omega
theorem Uc (x:Pol):Sz.sz x≤1048576→dO Pol Tryz.prog vB x:=by
 refine lF (p:=fun x=>Sz.sz x≤1048576→dO Pol Tryz.prog vB x) ?_ x
 intro x ih hs cs F h r
 rw[Pol.tZ] at hs
 rw[Pol.dw] at r
 obtain⟨v0,rfl,r0⟩:=r
 have hc:=toPols (xs:=x.l) (fun y hy=>ih y hy (by have:=bC hy;omega)) (by omega)
 refine ait _ ?_
 unfold Us
 have Sl:=hc
 (repeat' first|refine vs ?_|((with_reducible refine aA Al ?_);(refine aK (Sl _ _ _ ah) ?_;rintro _ _ ⟨e_,_,_,_⟩;have n_:=e_.1;(try simp only[aH,aN] at n_)))|fail)
 exact⟨rfl,_,rfl,aD,_,_,rfl,Pol.dw.2 ⟨_,rfl,ah⟩,bA⟩
theorem Sl (xs:List Pol) (hs:xs.length+szs xs≤1048576):gG Tryz.prog Al xs:=toPols (fun x hx=>Uc x (by have:=bC hx;omega)) hs
theorem Yx {xs:List Pol} (hc:∀ x∈xs,EqX Pol Tryz.prog xK x) (v v':AV) (F F':List Nat) (h:AH) (r:au h v xs F) (r':au h v' xs F'):aM Tryz.prog Ao [v,v'] h (.bool true):=
 reader (ahA _ _) (by simp only[old]) (VZ rfl hc r r')
theorem Ue:EqC Pol Tryz.prog xK:=by
 refine lF ?_
 intro x ih cs cs' F F' h r r'
 rw[Pol.dw] at r r'
 obtain⟨v0,rfl,r0⟩:=r
 obtain⟨u0,rfl,q0⟩:=r'
 have Sn:=Yx ih
 refine reader (aiv _ _) (by simp only[old]) ?_
 unfold Uu
 (repeat' first|refine vs ?_|((with_reducible refine aA Ao ?_);refine aJ (Sn _ _ _ _ _ ah ah) ?_)|fail)
 exact pb rfl
theorem Sn:EqS Pol Tryz.prog Ao:=fun xs v v' F F' h r r'=>Yx (fun x _=>Ue x) v v' F F' h r r'
theorem Yk {xs:List Pol} (hc:∀ x∈xs,SzX Pol Tryz.prog xJ x) (ok:∀ x∈xs,Cel.ok x) (v:AV) (F:List Nat) (b:Int) (h:AH) (r:au h v xs F) (h0:0≤b) (h1:b≤1048576):aM Tryz.prog Am [v,.int .i64 b] h (.int .i64 (szr b (xs.length+szs xs))):=
 reader (aht _ _) (by simp only[old]) (VG rfl hc ok r h0 h1)
theorem Ud:SzC Pol Tryz.prog xJ:=by
 refine lF ?_
 intro x ih ok cs F b h r h0 h1
 have hS:=Pol.tZ x
 rw[Pol.dw] at r
 obtain⟨v0,rfl,r0⟩:=r
 have okl:∀ y∈x.l,Cel.ok y:=by
  cases x with
  |mk k n s t l=>exact Pol.GI.1 ok.2.2.2.2
 have ok1:x.key.size≤9223372036854775807:=by cases x with
  |mk k n s t l=>exact ok.2.2.1
 have ok2:x.text.size≤9223372036854775807:=by cases x with
  |mk k n s t l=>exact ok.2.2.2.1
 have Sm:=Yk ih okl
 refine reader (aiu _ _) (by simp only[old]) ?_
 unfold Ut
 (repeat' first|refine vs ?_|(refine br ?_ ?_<;>first|exact bo|intro _)|((with_reducible refine aA Am ?_);(refine jd (Sm _ _ _ _ ah aO aO) (fun _=>?_) (fun _=>?_)))|fail)
 all_goals(refine pi ?_;unfold szr;split<;>omega)
theorem Sm:SzL Pol Tryz.prog Am:=fun xs ok v F b h r h0 h1=>Yk (fun x _=>Ud x) ok v F b h r h0 h1
end Go.Proofs.YtkdjapahgmflbaaGreat
end
section
namespace Go.Proofs.YtkdjapahgmflbaaGreat
open Go Go.Ab
section
def R8 (x0:AV):Prog:=.op (.box x0) fun a=>Lg 3 a fun a=>Cl EL [a] fun a=>.fin [.val a]
theorem af5 (x0:AV):CC Tryz.prog xB [x0] (R8 x0):=cc Tryz.func46
def Rq (x0:AV):Prog:=.op (.box x0) fun a=>Lg 3 a fun a=>Cl El [a] fun a=>.fin [.val a]
theorem afj (x0:AV):CC Tryz.prog uS [x0] (Rq x0):=cc Tryz.func265
def R3 (x0 x1:AV):Prog:=.op (.box x1) fun a=>.op (.kr Jv [a]) fun a=>Cl zN [x0,a] fun a=>.fin [.val a]
theorem afZ (x0 x1:AV):CC Tryz.prog oJ [x0,x1] (R3 x0 x1):=cc Tryz.func128
def Rk (x0 x1:AV):Prog:=.loop [.int .i64 0] (fun a=>Ln 0 x0 fun b=>Bn .lss (g a 0) b fun b=>.ite b (Ix 4 x0 (g a 0) fun b=>Lg 0 b fun b=>Bn .eql b x1 fun b=>.ite b (.fin [.val (g a 0)]) (Bn .add (g a 0) (.int .i64 1) fun a=>.leaf 0 [a])) (.leaf 2 [g a 0])) fun a b=>aB a 1 (.leaf 1 b) (aB a 2 (.fin [.val (.int .i64 (-1))]) .bad)
theorem afd (x0 x1:AV):CC Tryz.prog xq [x0,x1] (Rk x0 x1):=cc Tryz.func383 [0,1,5] (fun _=>[])
def Py (x0 x1:AV):Prog:=.op (.box x0) fun a=>Lg 0 a fun a=>.op (.ld1 x1) fun b=>Bn .eql a b fun a=>.fin [.val a]
theorem acg (x0 x1:AV):CC Tryz.prog Jv [x0,x1] (Py x0 x1):=cc Tryz.func242
def ZV (x0 x1:AV):Prog:=Ln 0 x0 fun a=>.loop [.int .i64 0] (fun b=>Bn .lss (g b 0) a fun a=>.ite a (Ix 4 x0 (g b 0) fun a=>Ld 4 a fun a=>.op (.iC x1 [a]) fun a=>.ite a (.fin [.val (g b 0)]) (Bn .add (g b 0) (.int .i64 1) fun a=>.leaf 0 [a])) (.leaf 2 [g b 0])) fun a b=>aB a 1 (.leaf 1 b) (aB a 2 (.fin [.val (.int .i64 (-1))]) .bad)
theorem ZX (x0 x1:AV):CC Tryz.prog zN [x0,x1] (ZV x0 x1):=cc Tryz.func241 [0,1,7,8] (fun _=>[])
def TR (x0:AV):Prog:=.op (.box x0) fun a=>Lg 0 a fun b=>Bn .geq b (.int .i64 1) fun b=>.gop b true (.fad 1 a) fun a=>.gop b true (.ldn 6 a) fun a=>.gop b true (.call sO [a]) fun a=>Pk b a (.bool false) fun a=>.fin [.val a]
theorem ahP (x0:AV):CC Tryz.prog xH [x0] (TR x0):=cc Tryz.func311
def SX (x0:AV):Prog:=.op (.box x0) fun a=>Lg 0 a fun b=>Bn .geq b (.int .i64 1) fun b=>.gop b true (.fad 1 a) fun a=>.gop b true (.ldn 6 a) fun a=>.gop b true (.call sM [a]) fun a=>Pk b a (.bool false) fun a=>.fin [.val a]
theorem ahe (x0:AV):CC Tryz.prog sN [x0] (SX x0):=cc Tryz.func158
def Qv (x0 x1:AV):Prog:=.op (.box x0) fun a=>.op (.box x1) fun b=>Lg 0 a fun c=>Lg 0 b fun d=>Bn .eql c d fun c=>.gop c true (.fad 1 a) fun a=>.gop c true (.ldn 6 a) fun a=>.gop c true (.fad 1 b) fun b=>.gop c true (.ldn 6 b) fun b=>.gop c true (.call oI [a,b]) fun a=>Pk c a (.bool false) fun a=>.fin [.val a]
theorem adG (x0 x1:AV):CC Tryz.prog D7 [x0,x1] (Qv x0 x1):=cc Tryz.func40
end
theorem QT {h:AH} {t:Trail} {v:AV} {F:List Nat} (hs:Sz.sz t≤67108864) (r:au h v t.spans F):aM Tryz.prog xB [.agg (t.cs v)] h (.int .i64 (dB dW t.spans)):=by
 refine reader (af5 _) (by simp only[old]) ?_
 unfold R8
 (repeat' first|refine vs ?_|((with_reducible refine aA EL ?_);refine aJ (aeB hs ah) ?_)|fail)
 exact pi rfl
theorem JZ {h:AH} {t:Trail} {v:AV} {F:List Nat} (hs:Sz.sz t≤67108864) (r:au h v t.spans F):aM Tryz.prog uS [.agg (t.cs v)] h (.int .i64 (dB dW t.spans)):=by
 refine reader (afj _) (by simp only[old]) ?_
 unfold Rq
 (repeat' first|refine vs ?_|((with_reducible refine aA El ?_);refine aJ (ad1 hs ah) ?_)|fail)
 exact pi rfl
def isId (k:Int) (t:Trail):Bool:=decide (t.id=k)
theorem aiP {h:AH} {b:Nat} {k:Int} (a:At h b 0 [.int .i64 k]):Looks Trail Tryz.prog h Jv [.ptr b 0] (isId k):=by
 rintro x cs F ⟨v,rfl,r⟩
 refine reader (acg _ _) (by simp only[old]) ?_
 unfold Py
 (repeat' first|refine vs ?_|(refine br ?_ ?_<;>first|exact bx|intro _)|fail)
 all_goals(refine pb ?_;simp[isId, *])
theorem Oq {h:AH} {xs:List Trail} {x0:AV} {F:List Nat} {f:FuncId} {caps:List AV} {p:Trail→Bool} (r:au h x0 xs F) (hf:Looks Trail Tryz.prog h f caps p):
  aM Tryz.prog zN [x0,.fn f caps] h (.int .i64 (idx p xs)):=
 reader (ZX _ _) (by simp only[old]) (Gb (w:=4) rfl r hf)
theorem Ae {h:AH} {xs:List Trail} {x0:AV} {F:List Nat} {k:Int} (r:au h x0 xs F):aM Tryz.prog oJ [x0,.int .i64 k] h (.int .i64 (idx (isId k) xs)):=by
 refine reader (afZ _ _) (by simp only[old]) ?_
 unfold R3
 (repeat' first|refine vs ?_|((with_reducible refine aA zN ?_);refine aJ (Oq ah (aiP jY)) ?_)|fail)
 exact pi rfl
theorem JY {h:AH} {xs:List Trail} {x0:AV} {F:List Nat} {k:Int} (r:au h x0 xs F):aM Tryz.prog xq [x0,.int .i64 k] h (.int .i64 (idx (isId k) xs)):=by
 refine reader (afd _ _) (by simp only[old]) ?_
 unfold Rk
 have hsm:=r.small
 refine aT xs.length (fun i vs h1=>vs=[.int .i64 (i:Int)]∧i≤xs.length∧h1=h∧cu xs (fun _ t=>isId k t=false) i) ⟨rfl,Nat.zero_le _,rfl,up0⟩ ?_
 rintro i vs h1 _ ⟨rfl,hi,rfl,hu⟩
 simp only[g0]
 refine vs ?_
 refine br (fun hlt=>?_) (fun hge=>?_)
 ·obtain⟨x,hx,-,-⟩:=aP (show i < xs.length by omega)
  (repeat' first|refine vs ?_|(refine br ?_ ?_<;>first|exact bx|intro _)|((with_reducible refine aY ?_);((refine ix ?_);rintro _ _ _ _ _ ⟨_,rfl,_⟩ _))|fail)
  ·rename_i he
   exact pi (wu hx (by simp[isId,he]) fun j y hj hy=>hu j y hj hy).symm
  ·rename_i he
   exact⟨by omega,rfl,by omega,rfl,upS hu hx (by simp[isId,he])⟩
 ·(repeat' first|refine vs ?_|fail)
  exact pi (BO fun j y hj hy=>hu j y (by omega) hy).symm
def lH (x:Itm):Prop:=1≤x.stamp∧qG x.s
theorem Sv {h:AH} {x:Itm} {v:AV} {F:List Nat} (ok:Cel.ok x.s) (hs:Sz.sz x≤67108864) (r:au h v x.s.attrs F):aM Tryz.prog xH [.agg (x.cs v)] h (.bool (bp (lH x))):=by
 refine reader (ahP _) (by simp only[old]) ?_
 unfold TR
 (repeat' first|refine vs ?_|(refine br ?_ ?_<;>first|exact bx|intro _)|((with_reducible refine aA sO ?_);(refine aS (KA ok hs ah) ?_ ?_<;>intro hn))|fail)
 all_goals first
  |exact pt ⟨by omega,by assumption⟩
  |exact pf fun k=>by obtain⟨a1,a2⟩:=k;first|omega|contradiction
theorem Kz {h:AH} {x:Itm} {v:AV} {F:List Nat} (ok:Cel.ok x.s) (hs:Sz.sz x≤67108864) (r:au h v x.s.attrs F):aM Tryz.prog sN [.agg (x.cs v)] h (.bool (bp (lH x))):=by
 refine reader (ahe _) (by simp only[old]) ?_
 unfold SX
 (repeat' first|refine vs ?_|(refine br ?_ ?_<;>first|exact bx|intro _)|((with_reducible refine aA sM ?_);(refine aS (Ky ok hs ah) ?_ ?_<;>intro hn))|fail)
 all_goals first
  |exact pt ⟨by omega,by assumption⟩
  |exact pf fun k=>by obtain⟨a1,a2⟩:=k;first|omega|contradiction
theorem acP {h:AH} {a b:Itm} {v v':AV} {F F':List Nat} (r:au h v a.s.attrs F) (r':au h v' b.s.attrs F'):aM Tryz.prog D7 [.agg (a.cs v),.agg (b.cs v')] h (.bool (bp (a=b))):=by
 refine reader (adG _ _) (by simp only[old]) ?_
 unfold Qv
 (repeat' first|refine vs ?_|(refine br ?_ ?_<;>first|exact bx|intro _)|((with_reducible refine aA oI ?_);(refine aS (DF (a:=a.s) (b:=b.s) ah ah) ?_ ?_<;>intro hn))|fail)
 all_goals first
  |(refine pf ?_;rintro rfl;contradiction)
  |(refine pt ?_;cases a;cases b;simp_all;done)
end Go.Proofs.YtkdjapahgmflbaaGreat
end
section
set_option maxHeartbeats 1000000
namespace Go.Proofs.YtkdjapahgmflbaaGreat
open Go Go.Ab
section
def TT (x0:AV):Prog:=.op (.box x0) fun a=>Lg 0 a fun b=>Cl bq [b,.int .i64 1,.int .i64 4] fun b=>.op (.una .not b) fun b=>Gf b false 17 a fun c=>.gop b false (.bin 0 .lss c (.int .i64 0)) fun c=>Pk b (.bool true) c fun b=>Gf b false 13 a fun c=>Gf b false 14 a fun d=>Gf b false 15 a fun e=>Gf b false 16 a fun f=>.gop b false (.mnx true [c,d,e,f]) fun c=>.gop b false (.bin 0 .lss c (.int .i64 0)) fun c=>Pk b (.bool true) c fun b=>.ite b (.fin [.val (.bool false)]) (Lg 0 a fun b=>Bn .eql b (.int .i64 1) fun b=>Gf b true 18 a fun c=>.gop b true (.bin 0 .neq c (.int .i64 (-1))) fun c=>Pk b c (.bool false) fun b=>.scope (.ite b (Lg 10 a fun a=>Cl bq [a,.int .i64 1,.int .i64 5] fun a=>.op (.una .not a) fun a=>.ite a (.fin [.val (.bool false)]) (.leaf 0 [])) (Lg 10 a fun a=>Bn .neq a (.int .i64 0) fun a=>.ite a (.fin [.val (.bool false)]) (.leaf 0 []))) (fun _=>Lg 18 a fun b=>.op (.bin 0 .eql b (.int .i64 (-1))) fun b=>Gf b false 18 a fun c=>Gf b false 17 a fun d=>.gop b false (.bin 0 .geq c d) fun c=>Pk b (.bool true) c fun b=>Gf b true 19 a fun c=>.gop b true (.bin 0 .eql c (.int .i64 (-1))) fun c=>.gop b true (.mv c) fun c=>Gf c false 18 a fun d=>.gop c false (.bin 0 .neq d (.int .i64 (-1))) fun d=>.gop c false (.mv d) fun d=>Gf d true 19 a fun e=>Gf d true 18 a fun a=>.gop d true (.bin 0 .geq e a) fun a=>.gop c false (.pick d a (.bool false)) fun a=>.gop b true (.pick c (.bool true) a) fun a=>Pk b a (.bool false) fun a=>.fin [.val a]) fun a b=>aB a 1 (.leaf 1 b) .bad)
theorem ahR (x0:AV):CC Tryz.prog Fw [x0] (TT x0):=cc Tryz.func217 [1] (fun _=>[])
def S9 (x0:AV):Prog:=.op (.box x0) fun a=>Lg 0 a fun b=>Cl bQ [b,.int .i64 1,.int .i64 4] fun b=>.op (.una .not b) fun b=>Gf b false 17 a fun c=>.gop b false (.bin 0 .lss c (.int .i64 0)) fun c=>Pk b (.bool true) c fun b=>Gf b false 13 a fun c=>.gop b false (.bin 0 .lss c (.int .i64 0)) fun c=>Pk b (.bool true) c fun b=>Gf b false 14 a fun c=>.gop b false (.bin 0 .lss c (.int .i64 0)) fun c=>Pk b (.bool true) c fun b=>Gf b false 15 a fun c=>.gop b false (.bin 0 .lss c (.int .i64 0)) fun c=>Pk b (.bool true) c fun b=>Gf b false 16 a fun c=>.gop b false (.bin 0 .lss c (.int .i64 0)) fun c=>Pk b (.bool true) c fun b=>.ite b (.fin [.val (.bool false)]) (Lg 18 a fun b=>.op (.bin 0 .neq b (.int .i64 (-1))) fun b=>Gf b true 18 a fun c=>Gf b true 17 a fun d=>.gop b true (.bin 0 .lss c d) fun c=>Pk b c (.bool false) fun b=>Gf b false 19 a fun c=>.gop b false (.bin 0 .neq c (.int .i64 (-1))) fun c=>.gop b false (.mv c) fun c=>Gf c true 18 a fun d=>.gop c true (.bin 0 .eql d (.int .i64 (-1))) fun d=>.gop c true (.mv d) fun d=>Gf d false 19 a fun e=>Gf d false 18 a fun f=>.gop d false (.bin 0 .lss e f) fun e=>.gop c true (.pick d (.bool true) e) fun d=>.gop b false (.pick c d (.bool false)) fun c=>Pk b (.bool true) c fun b=>.ite b (.fin [.val (.bool false)]) (Lg 0 a fun b=>Bn .eql b (.int .i64 1) fun b=>Gf b true 18 a fun c=>.gop b true (.bin 0 .neq c (.int .i64 (-1))) fun c=>Pk b c (.bool false) fun b=>.ite b (Lg 10 a fun a=>Cl bQ [a,.int .i64 1,.int .i64 5] fun a=>.fin [.val a]) (Lg 10 a fun a=>Bn .eql a (.int .i64 0) fun a=>.fin [.val a])))
theorem ahg (x0:AV):CC Tryz.prog E8 [x0] (S9 x0):=cc Tryz.func159
def PG (x0:AV):Prog:=.op (.box x0) fun a=>Lg 0 a fun b=>Bn .eql b (.int .i64 2) fun b=>Gf b true 1 a fun a=>.gop b true (.bin 0 .eql a (.int .i64 2)) fun a=>Pk b a (.bool false) fun a=>.fin [.val a]
theorem acn (x0:AV):CC Tryz.prog z8 [x0] (PG x0):=cc Tryz.func221
def O5 (x0:AV):Prog:=.op (.box x0) fun a=>Lg 0 a fun b=>Bn .eql b (.int .i64 2) fun b=>Gf b true 1 a fun a=>.gop b true (.bin 0 .eql a (.int .i64 2)) fun a=>Pk b a (.bool false) fun a=>.fin [.val a]
theorem abN (x0:AV):CC Tryz.prog zS [x0] (O5 x0):=cc Tryz.func272
def QB (x0 x1:AV):Prog:=.op (.box x0) fun a=>Lg 1 a fun a=>Cl xU [x1,a] fun a=>.fin [.val a]
theorem adL (x0 x1:AV):CC Tryz.prog D9 [x0,x1] (QB x0 x1):=cc Tryz.func321
def Qc (x0 x1:AV):Prog:=.op (.box x0) fun a=>Lg 1 a fun a=>Cl xR [x1,a] fun a=>.fin [.val a]
theorem adf (x0 x1:AV):CC Tryz.prog DR [x0,x1] (Qc x0 x1):=cc Tryz.func332
end
def nJ (d:bI):Prop:=(1≤d.op∧d.op≤4)∧0≤d.inv∧0≤d.took∧0≤d.n∧0≤d.forgot∧0≤d.now∧((d.op=1∧d.lin≠-1∧1≤d.code∧d.code≤5)∨(¬ (d.op=1∧d.lin≠-1)∧d.code=0))∧(d.lin= -1∨d.inv≤d.lin)∧(d.res= -1∨(d.lin≠-1∧d.lin≤d.res))
theorem alM {P:Program} {h:AH} {Q:Nat→List AV→AH→Prop} {k:AV→Prog} {a b c d:Int} (hk:(k (.int .i64 (min (min (min a b) c) d))).awp P h Q):(Prog.op (.mnx true [.int .i64 a,.int .i64 b,.int .i64 c,.int .i64 d]) k).awp P h Q:=by
 simp only[Prog.awp,AOp.go,uI,pE,if_true]
 have e:∀ x y:Int,(if y < x then y else x)=min x y:=fun x y=>by split<;>omega
 simp only[e]
 exact hk
theorem agM {h:AH} {d:bI} {v:AV}:aM Tryz.prog Fw [.agg (d.cs v)] h (.bool (bp (nJ d))):=by
 refine reader (ahR _) (by simp only[old]) ?_
 unfold TT
 (repeat' first|refine vs ?_|(refine br ?_ ?_<;>first|exact bx|intro _)|((with_reducible refine aA bq ?_);(refine bU eZ ?_ ?_<;>intro hb<;>first|replace hb:=dx hb|replace hb:=dz hb))|fail)
 all_goals first
  |(refine pf ?_;unfold nJ;omega)
  |skip
 refine alM ?_
 (repeat' first|refine vs ?_|(refine br ?_ ?_<;>first|exact bo|intro _)|((with_reducible refine aA bq ?_);(refine bU eZ ?_ ?_<;>intro hb<;>first|replace hb:=dx hb|replace hb:=dz hb))|fail)
 all_goals first
  |(refine pt ?_;unfold nJ;omega)
  |(refine pf ?_;unfold nJ;omega)
theorem agl {h:AH} {d:bI} {v:AV}:aM Tryz.prog E8 [.agg (d.cs v)] h (.bool (bp (nJ d))):=by
 refine reader (ahg _) (by simp only[old]) ?_
 unfold S9
 (repeat' first|refine vs ?_|(refine br ?_ ?_<;>first|exact bo|intro _)|((with_reducible refine aA bQ ?_);(refine bU jr ?_ ?_<;>intro hb<;>first|replace hb:=dx hb|replace hb:=dz hb))|fail)
 all_goals first
  |(refine pt ?_;unfold nJ;omega)
  |(refine pf ?_;unfold nJ;omega)
theorem OV {h:AH} {t:Task} {v v':AV}:aM Tryz.prog z8 [.agg (t.cs v v')] h (.bool (bp (t.op=2∧t.pc=2))):=by
 refine reader (acn _) (by simp only[old]) ?_
 unfold PG
 (repeat' first|refine vs ?_|(refine br ?_ ?_<;>first|exact bx|intro _)|fail)
 all_goals first
  |exact pt ⟨by omega,by omega⟩
  |exact pf fun k=>by obtain⟨a1,a2⟩:=k;omega
theorem OO {h:AH} {t:Task} {v v':AV}:aM Tryz.prog zS [.agg (t.cs v v')] h (.bool (bp (t.op=2∧t.pc=2))):=by
 refine reader (abN _) (by simp only[old]) ?_
 unfold O5
 (repeat' first|refine vs ?_|(refine br ?_ ?_<;>first|exact bx|intro _)|fail)
 all_goals first
  |exact pt ⟨by omega,by omega⟩
  |exact pf fun k=>by obtain⟨a1,a2⟩:=k;omega
theorem acT {h:AH} {c:iL} {v:AV} {a:Int}:aM Tryz.prog D9 [.agg (c.cs v),.int .i64 a] h (.int .i64 (iK a c.wait)):=by
 refine reader (adL _ _) (by simp only[old]) ?_
 unfold QB
 (repeat' first|refine vs ?_|((with_reducible refine aA xU ?_);refine aJ Vh ?_)|fail)
 exact pi rfl
theorem acA {h:AH} {c:iL} {v:AV} {a:Int}:aM Tryz.prog DR [.agg (c.cs v),.int .i64 a] h (.int .i64 (iK a c.wait)):=by
 refine reader (adf _ _) (by simp only[old]) ?_
 unfold Qc
 (repeat' first|refine vs ?_|((with_reducible refine aA xR ?_);refine aJ Vf ?_)|fail)
 exact pi rfl
end Go.Proofs.YtkdjapahgmflbaaGreat
end
section
set_option maxHeartbeats 1000000
namespace Go.Proofs.YtkdjapahgmflbaaGreat
open Go Go.Ab
section
end
end Go.Proofs.YtkdjapahgmflbaaGreat
end
section
set_option maxHeartbeats 1000000
namespace Go.Proofs.YtkdjapahgmflbaaGreat
open Go Go.Ab
section
def Vs (x0:AV):Prog:=Bn .and x0 (.int .i64 65535) fun a=>Bn .shl a (.int .u64 7) fun b=>Bn .and b (.int .i64 65535) fun b=>Bn .xor a b fun a=>Bn .shr a (.int .u64 9) fun b=>Bn .xor a b fun a=>Bn .shl a (.int .u64 8) fun b=>Bn .and b (.int .i64 65535) fun b=>Bn .xor a b fun a=>.fin [.val a]
theorem ajF (x0:AV):CC Tryz.prog FT [x0] (Vs x0):=cc Tryz.func203
def Vl (x0:AV):Prog:=Bn .and x0 (.int .i64 65535) fun a=>Bn .shl a (.int .u64 7) fun b=>Bn .xor a b fun a=>Bn .and a (.int .i64 65535) fun a=>Bn .shr a (.int .u64 9) fun b=>Bn .xor a b fun a=>Bn .shl a (.int .u64 8) fun b=>Bn .xor a b fun a=>Bn .and a (.int .i64 65535) fun a=>.fin [.val a]
theorem ajy (x0:AV):CC Tryz.prog FQ [x0] (Vl x0):=cc Tryz.func207
def Qt (x0 x1:AV):Prog:=Bn .lss x1 (.int .i64 1) fun a=>.ite a (.fin [.val (.int .i64 0)]) (Cl FT [x0] fun a=>Bn .rem a x1 fun a=>.fin [.val a])
theorem adE (x0 x1:AV):CC Tryz.prog jU [x0,x1] (Qt x0 x1):=cc Tryz.func104
def P5 (x0 x1:AV):Prog:=Bn .lss x1 (.int .i64 1) fun a=>.ite a (.fin [.val (.int .i64 0)]) (Cl FQ [x0] fun a=>Bn .rem a x1 fun a=>.fin [.val a])
theorem ac6 (x0 x1:AV):CC Tryz.prog d9 [x0,x1] (P5 x0 x1):=cc Tryz.func112
def OD (x0 x1:AV):Prog:=.op (.box x0) fun a=>Bn .lss x1 (.int .i64 1) fun b=>.ite b (.fin [.val (.int .i64 (-1))]) (Lg 0 a fun b=>Bn .eql b (.int .i64 1) fun b=>Gf b true 1 a fun c=>.gop b true (.bin 0 .eql c (.int .i64 1)) fun c=>Pk b c (.bool false) fun b=>.ite b (.op (.fad 2 a) fun a=>Lg 0 a fun a=>Cl jU [a,x1] fun a=>.fin [.val a]) (Lg 0 a fun b=>Bn .eql b (.int .i64 1) fun b=>Gf b true 1 a fun c=>.gop b true (.bin 0 .eql c (.int .i64 3)) fun c=>Pk b c (.bool false) fun b=>.scope (.ite b (.leaf 0 [b]) (Lg 0 a fun b=>Bn .eql b (.int .i64 2) fun b=>Gf b true 1 a fun c=>.gop b true (.bin 0 .eql c (.int .i64 1)) fun c=>.gop b true (.mv c) fun c=>Gf c false 1 a fun a=>.gop c false (.bin 0 .eql a (.int .i64 2)) fun a=>.gop b true (.pick c (.bool true) a) fun a=>Pk b a (.bool false) fun a=>.leaf 0 [a])) (fun b=>.ite (g b 0) (Lg 8 a fun a=>Cl jU [a,x1] fun a=>.fin [.val a]) (.fin [.val (.int .i64 (-1))])) fun a b=>aB a 1 (.leaf 1 b) .bad))
theorem aaC (x0 x1:AV):CC Tryz.prog Je [x0,x1] (OD x0 x1):=cc Tryz.func220 [1,2,22] (fun _=>[])
def Oy (x0 x1:AV):Prog:=.op (.box x0) fun a=>Bn .lss x1 (.int .i64 1) fun b=>.ite b (.fin [.val (.int .i64 (-1))]) (Lg 0 a fun b=>Bn .eql b (.int .i64 1) fun b=>Gf b true 1 a fun c=>.gop b true (.bin 0 .eql c (.int .i64 1)) fun c=>Pk b c (.bool false) fun b=>.ite b (.op (.fad 2 a) fun a=>Lg 0 a fun a=>Cl d9 [a,x1] fun a=>.fin [.val a]) (Lg 0 a fun b=>Bn .eql b (.int .i64 1) fun b=>Gf b true 1 a fun c=>.gop b true (.bin 0 .eql c (.int .i64 3)) fun c=>Pk b c (.bool false) fun b=>.scope (.ite b (.leaf 0 [b]) (Lg 0 a fun b=>Bn .eql b (.int .i64 2) fun b=>Gf b true 1 a fun c=>.gop b true (.bin 0 .eql c (.int .i64 1)) fun c=>.gop b true (.mv c) fun c=>Gf c false 1 a fun a=>.gop c false (.bin 0 .eql a (.int .i64 2)) fun a=>.gop b true (.pick c (.bool true) a) fun a=>Pk b a (.bool false) fun a=>.leaf 0 [a])) (fun b=>.ite (g b 0) (Lg 8 a fun a=>Cl d9 [a,x1] fun a=>.fin [.val a]) (.fin [.val (.int .i64 (-1))])) fun a b=>aB a 1 (.leaf 1 b) .bad))
theorem aax (x0 x1:AV):CC Tryz.prog Jc [x0,x1] (Oy x0 x1):=cc Tryz.func271 [1,2,21] (fun _=>[])
def RZ (x0:AV):Prog:=.op (.box x0) fun a=>Lg 3 a fun b=>Ln 0 b fun c=>.loop [.int .i64 0] (fun d=>Bn .lss (g d 0) c fun c=>.ite c (Ix 6 b (g d 0) fun b=>Ld 6 b fun b=>.op (.alloc iZ) fun c=>.op (.st 6 c b) fun _=>Ld 6 c fun b=>Cl sO [b] fun b=>.op (.una .not b) fun b=>Gf b false 0 c fun c=>Gf b false 0 a fun a=>.gop b false (.bin 0 .neq c a) fun a=>Pk b (.bool true) a fun a=>.ite a (.fin [.val (.bool false)]) (Bn .add (g d 0) (.int .i64 1) fun a=>.leaf 0 [a])) (.leaf 2 [g d 0])) fun b c=>aB b 1 (.leaf 1 c) (aB b 2 (Lg 0 a fun b=>Cl bq [b,.int .i64 1,.int .i64 999] fun b=>Gf b true 1 a fun c=>.gop b true (.bin 0 .geq c (.int .i64 1)) fun c=>Pk b c (.bool false) fun b=>Gf b true 2 a fun c=>.gop b true (.call bq [c,.int .i64 0,.int .i64 2147483647]) fun c=>Pk b c (.bool false) fun b=>Gf b true 3 a fun a=>.gop b true (.len 0 a) fun a=>.gop b true (.bin 0 .gtr a (.int .i64 0)) fun a=>Pk b a (.bool false) fun a=>.fin [.val a]) .bad)
theorem afY (x0:AV):CC Tryz.prog EJ [x0] (RZ x0):=cc Tryz.func304 [1,6,7,8] (fun _=>[])
def Rj (x0:AV):Prog:=.op (.box x0) fun a=>.loop [.int .i64 0] (fun b=>Lg 3 a fun c=>Ln 0 c fun c=>Bn .lss (g b 0) c fun c=>.ite c (Lg 3 a fun c=>Ix 6 c (g b 0) fun c=>Ld 6 c fun c=>Cl sM [c] fun c=>.op (.una .not c) fun c=>Gf c false 3 a fun d=>.gop c false (.mv (g b 0)) fun e=>.gop c false (.idx 6 d e) fun d=>Gf c false 0 d fun d=>Gf c false 0 a fun a=>.gop c false (.bin 0 .neq d a) fun a=>Pk c (.bool true) a fun a=>.ite a (.fin [.val (.bool false)]) (Bn .add (g b 0) (.int .i64 1) fun a=>.leaf 0 [a])) (.leaf 2 [g b 0])) fun b c=>aB b 1 (.leaf 1 c) (aB b 2 (Lg 0 a fun b=>Cl bQ [b,.int .i64 1,.int .i64 999] fun b=>Gf b true 1 a fun c=>.gop b true (.bin 0 .geq c (.int .i64 1)) fun c=>Pk b c (.bool false) fun b=>Gf b true 2 a fun c=>.gop b true (.call bQ [c,.int .i64 0,.int .i64 2147483647]) fun c=>Pk b c (.bool false) fun b=>Gf b true 3 a fun a=>.gop b true (.len 0 a) fun a=>.gop b true (.bin 0 .geq a (.int .i64 1)) fun a=>Pk b a (.bool false) fun a=>.fin [.val a]) .bad)
theorem afc (x0:AV):CC Tryz.prog Ej [x0] (Rj x0):=cc Tryz.func263 [1,3] (fun r=>if r=4 then[(0,[]),(1,[]),(2,[]),(3,[]),(4,[]),(5,[]),(6,[]),(7,[]),(8,[]),(9,[]),(10,[]),(11,[]),(12,[]),(13,[]),(14,[]),(15,[]),(16,[]),(17,[])] else[])
end
section
variable{P:Program} {h:AH} {Q:Nat→List AV→AH→Prop} {k:AV→Prog}
theorem H8 {p:Nat} (hp:p < 9223372036854775808):(BitVec.ofInt 64 (p:Int)).toNat=p:=by
 rw[BitVec.ofInt_natCast,BitVec.toNat_ofNat];omega
theorem Hl {p q:Nat} (hp:p < 9223372036854775808) (hq:q < 9223372036854775808) (hk:(k (.int .i64 ((p &&& q:Nat):Int))).awp P h Q):(Prog.op (.bin 0 .and (.int .i64 (p:Int)) (.int .i64 (q:Int))) k).awp P h Q:=by
 have e:fJ .and (.int .i64 (p:Int)) (.int .i64 (q:Int))=some (.int .i64 ((p &&& q:Nat):Int)):=by
  have h1:(BitVec.ofInt 64 (p:Int) &&& BitVec.ofInt 64 (q:Int)).toNat=p &&& q:=by rw[BitVec.toNat_and,H8 hp,H8 hq]
  have h2:p &&& q≤p:=Nat.and_le_left
  show(if IntKind.i64=IntKind.i64 then some (AV.int .i64 (IntKind.i64.wrap ((BitVec.ofInt 64 (p:Int) &&& BitVec.ofInt 64 (q:Int)).toNat:Int))) else none)=_
  rw[if_pos rfl,h1,kL (by omega) (by omega)]
 simp only[Prog.awp,AOp.go,fQ,e];exact hk
theorem Yg {a:Int} (hk:(k (.int .i64 (((BitVec.ofInt 64 a).toNat % 65536:Nat):Int))).awp P h Q):(Prog.op (.bin 0 .and (.int .i64 a) (.int .i64 65535)) k).awp P h Q:=by
 have e:fJ .and (.int .i64 a) (.int .i64 65535)=some (.int .i64 (((BitVec.ofInt 64 a).toNat % 65536:Nat):Int)):=by
  have h1:(BitVec.ofInt 64 a &&& BitVec.ofInt 64 65535).toNat=(BitVec.ofInt 64 a).toNat % 65536:=by
   rw[BitVec.toNat_and,show(BitVec.ofInt 64 65535).toNat=2 ^ 16 - 1 by decide,Nat.and_two_pow_sub_one_eq_mod]
  show(if IntKind.i64=IntKind.i64 then some (AV.int .i64 (IntKind.i64.wrap ((BitVec.ofInt 64 a &&& BitVec.ofInt 64 65535).toNat:Int))) else none)=_
  rw[if_pos rfl,h1,kL (by omega) (by omega)]
 simp only[Prog.awp,AOp.go,fQ,e];exact hk
theorem yM {p q:Nat} (hp:p < 4294967296) (hq:q < 4294967296) (hk:(k (.int .i64 ((p ^^^ q:Nat):Int))).awp P h Q):(Prog.op (.bin 0 .xor (.int .i64 (p:Int)) (.int .i64 (q:Int))) k).awp P h Q:=by
 have e:fJ .xor (.int .i64 (p:Int)) (.int .i64 (q:Int))=some (.int .i64 ((p ^^^ q:Nat):Int)):=by
  have h1:(BitVec.ofInt 64 (p:Int) ^^^ BitVec.ofInt 64 (q:Int)).toNat=p ^^^ q:=by rw[BitVec.toNat_xor,H8 (by omega),H8 (by omega)]
  have h2:p ^^^ q < 2 ^ 32:=Nat.xor_lt_two_pow hp hq
  show(if IntKind.i64=IntKind.i64 then some (AV.int .i64 (IntKind.i64.wrap ((BitVec.ofInt 64 (p:Int) ^^^ BitVec.ofInt 64 (q:Int)).toNat:Int))) else none)=_
  rw[if_pos rfl,h1,kL (by omega) (by omega)]
 simp only[Prog.awp,AOp.go,fQ,e];exact hk
theorem Yc {p:Nat} (hp:p < 65536) (hk:(k (.int .i64 ((p * 128:Nat):Int))).awp P h Q):(Prog.op (.bin 0 .shl (.int .i64 (p:Int)) (.int .u64 7)) k).awp P h Q:=by
 have e:fJ .shl (.int .i64 (p:Int)) (.int .u64 7)=some (.int .i64 ((p * 128:Nat):Int)):=by
  show(if(7:Int) < 0 then none else some (AV.int .i64 (IntKind.i64.wrap ((p:Int) * 2 ^ (min (7:Int).toNat IntKind.i64.bits)))))=_
  rw[if_neg (by decide),show(2:Int) ^ (min (7:Int).toNat IntKind.i64.bits)=128 by decide,kL (by omega) (by omega)]
  simp
 simp only[Prog.awp,AOp.go,fQ,e];exact hk
theorem Yb {p:Nat} (hp:p < 65536) (hk:(k (.int .i64 ((p * 256:Nat):Int))).awp P h Q):(Prog.op (.bin 0 .shl (.int .i64 (p:Int)) (.int .u64 8)) k).awp P h Q:=by
 have e:fJ .shl (.int .i64 (p:Int)) (.int .u64 8)=some (.int .i64 ((p * 256:Nat):Int)):=by
  show(if(8:Int) < 0 then none else some (AV.int .i64 (IntKind.i64.wrap ((p:Int) * 2 ^ (min (8:Int).toNat IntKind.i64.bits)))))=_
  rw[if_neg (by decide),show(2:Int) ^ (min (8:Int).toNat IntKind.i64.bits)=256 by decide,kL (by omega) (by omega)]
  simp
 simp only[Prog.awp,AOp.go,fQ,e];exact hk
theorem Ya {p:Nat} (hk:(k (.int .i64 ((p / 512:Nat):Int))).awp P h Q):(Prog.op (.bin 0 .shr (.int .i64 (p:Int)) (.int .u64 9)) k).awp P h Q:=by
 have e:fJ .shr (.int .i64 (p:Int)) (.int .u64 9)=some (.int .i64 ((p / 512:Nat):Int)):=by
  show(if(9:Int) < 0 then none else some (AV.int .i64 ((p:Int).fdiv (2 ^ (min (9:Int).toNat IntKind.i64.bits)))))=_
  rw[if_neg (by decide),show(2:Int) ^ (min (9:Int).toNat IntKind.i64.bits)=512 by decide,Int.fdiv_eq_ediv_of_nonneg _ (by decide),show(p:Int) / 512=((p / 512:Nat):Int) by omega]
 simp only[Prog.awp,AOp.go,fQ,e];exact hk
end
def jH (n:Int):Nat:=(BitVec.ofInt 64 n).toNat % 65536
def nX (a:Nat):Nat:=a ^^^ (a * 128) % 65536
def Cx (a:Nat):Nat:=a ^^^ a / 512
def anC (a:Nat):Nat:=a ^^^ (a * 256) % 65536
def mix (n:Int):Nat:=anC (Cx (nX (jH n)))
theorem XE (n:Int):jH n < 65536:=Nat.mod_lt _ (by decide)
theorem XD {a:Nat} (h:a < 65536):nX a < 65536:=Nat.xor_lt_two_pow (n:=16) h (Nat.mod_lt _ (by decide))
theorem XC {a:Nat} (h:a < 65536):Cx a < 65536:=Nat.xor_lt_two_pow (n:=16) h (by omega)
theorem ajd {h:AH} {n:Int}:aM Tryz.prog FT [.int .i64 n] h (.int .i64 (mix n:Nat)):=by
 refine reader (ajF _) (by simp only[old]) ?_
 unfold Vs
 have l0:=XE n
 have l1:=XD l0
 have l2:=XC l1
 refine Yg ?_
 rw[show(BitVec.ofInt 64 n).toNat % 65536=jH n from rfl]
 refine Yc l0 (Hl (q:=65535) (by omega) (by decide) (yM (by omega) ?_ ?_))
 ·exact Nat.lt_of_le_of_lt Nat.and_le_right (by decide)
 rw[Nat.and_two_pow_sub_one_eq_mod (n:=16),show jH n ^^^ jH n * 128 % 2 ^ 16=nX (jH n) from rfl]
 refine Ya (yM (by omega) (by omega) ?_)
 rw[show nX (jH n) ^^^ nX (jH n) / 512=Cx (nX (jH n)) from rfl]
 refine Yb l2 (Hl (q:=65535) (by omega) (by decide) (yM (by omega) ?_ ?_))
 ·exact Nat.lt_of_le_of_lt Nat.and_le_right (by decide)
 rw[Nat.and_two_pow_sub_one_eq_mod (n:=16)]
 exact eY (pi rfl)
theorem ai9 {h:AH} {n:Int}:aM Tryz.prog FQ [.int .i64 n] h (.int .i64 (mix n:Nat)):=by
 refine reader (ajy _) (by simp only[old]) ?_
 unfold Vl
 have l0:=XE n
 have l1:=XD l0
 have l2:=XC l1
 have x1:∀ a:Nat,a < 65536→(a ^^^ (a * 128)) < 4294967296:=fun a ha=>Nat.xor_lt_two_pow (n:=32) (by omega) (by omega)
 have x2:∀ a:Nat,a < 65536→(a ^^^ (a * 256)) < 4294967296:=fun a ha=>Nat.xor_lt_two_pow (n:=32) (by omega) (by omega)
 have y1:=x1 _ l0
 have y2:=x2 _ l2
 refine Yg ?_
 rw[show(BitVec.ofInt 64 n).toNat % 65536=jH n from rfl]
 refine Yc l0 (yM (by omega) (by omega) (Hl (q:=65535) (by omega) (by decide) ?_))
 rw[Nat.and_two_pow_sub_one_eq_mod (n:=16),Nat.xor_mod_two_pow,Nat.mod_eq_of_lt (a:=jH n) (b:=2 ^ 16) l0,show jH n ^^^ jH n * 128 % 2 ^ 16=nX (jH n) from rfl]
 refine Ya (yM (by omega) (by omega) ?_)
 rw[show nX (jH n) ^^^ nX (jH n) / 512=Cx (nX (jH n)) from rfl]
 refine Yb l2 (yM (by omega) (by omega) (Hl (q:=65535) (by omega) (by decide) ?_))
 rw[Nat.and_two_pow_sub_one_eq_mod (n:=16),Nat.xor_mod_two_pow,Nat.mod_eq_of_lt (a:=Cx (nX (jH n))) (b:=2 ^ 16) l2]
 exact eY (pi rfl)
def stripe (t n:Int):Int:=if n < 1 then 0 else((mix t:Nat):Int).tmod n
theorem iU {t n:Int} (hn:1≤n):0≤stripe t n∧stripe t n < n:=by
 unfold stripe
 rw[if_neg (by omega)]
 exact⟨Int.tmod_nonneg _ (by omega),Int.tmod_lt_of_pos _ (by omega)⟩
theorem rZ {h:AH} {t n:Int}:aM Tryz.prog jU [.int .i64 t,.int .i64 n] h (.int .i64 (stripe t n)):=by
 refine reader (adE _ _) (by simp only[old]) ?_
 unfold Qt
 (repeat' first|refine vs ?_|(refine br ?_ ?_<;>first|exact bx|intro _)|((with_reducible refine aA FT ?_);refine aJ ajd ?_)|fail)
 ·exact pi (by unfold stripe;rw[if_pos (by assumption)])
 ·refine BZ (by omega) (eY (pi ?_))
  unfold stripe;rw[if_neg (by assumption)]
theorem iD {h:AH} {t n:Int}:aM Tryz.prog d9 [.int .i64 t,.int .i64 n] h (.int .i64 (stripe t n)):=by
 refine reader (ac6 _ _) (by simp only[old]) ?_
 unfold P5
 (repeat' first|refine vs ?_|(refine br ?_ ?_<;>first|exact bx|intro _)|((with_reducible refine aA FQ ?_);refine aJ ai9 ?_)|fail)
 ·exact pi (by unfold stripe;rw[if_pos (by assumption)])
 ·refine BZ (by omega) (eY (pi ?_))
  unfold stripe;rw[if_neg (by assumption)]
def eP (t:Task) (n:Int):Int:=if n < 1 then -1 else if t.op=1∧t.pc=1 then stripe t.s.trace n else if(t.op=1∧t.pc=3)∨(t.op=2∧(t.pc=1∨t.pc=2)) then stripe t.trace n else -1
theorem aau {h:AH} {t:Task} {n:Int} {v v':AV}:aM Tryz.prog Je [.agg (t.cs v v'),.int .i64 n] h (.int .i64 (eP t n)):=by
 refine reader (aaC _ _) (by simp only[old]) ?_
 unfold OD
 (repeat' first|refine vs ?_|(refine br ?_ ?_<;>first|exact bo|intro _)|((with_reducible refine aA jU ?_);refine aJ rZ ?_)|refine gS ?_|fail)
 all_goals(refine pi ?_;simp[eP, *])
theorem aas {h:AH} {t:Task} {n:Int} {v v':AV}:aM Tryz.prog Jc [.agg (t.cs v v'),.int .i64 n] h (.int .i64 (eP t n)):=by
 refine reader (aax _ _) (by simp only[old]) ?_
 unfold Oy
 (repeat' first|refine vs ?_|(refine br ?_ ?_<;>first|exact bo|intro _)|((with_reducible refine aA d9 ?_);refine aJ iD ?_)|refine gS ?_|fail)
 all_goals(refine pi ?_;simp[eP, *])
def Gu (t:Trail):Prop:=(∀ s∈t.spans,qG s∧s.trace=t.id)∧(1≤t.id∧t.id≤999)∧1≤t.stamp∧(0≤t.first∧t.first≤2147483647)∧0 < (t.spans.length:Int)
theorem aeA {h:AH} {t:Trail} {v:AV} {F:List Nat} (ok:∀ x∈t.spans,Cel.ok x) (hs:Sz.sz t≤67108864) (r:au h v t.spans F):aM Tryz.prog EJ [.agg (t.cs v)] h (.bool (bp (Gu t))):=by
 refine reader (afY _) (by simp only[old]) ?_
 unfold RZ
 have hsz:Sz.sz t=t.spans.length+szs t.spans:=rfl
 refine vs ?_
 refine aT t.spans.length (fun i vs h1=>vs=[.int .i64 (i:Int)]∧i≤t.spans.length∧Ext (h.push ⟨t.cs v,0,0⟩) h1∧cu t.spans (fun _ s=>qG s∧s.trace=t.id) i) ⟨rfl,Nat.zero_le _,aD,up0⟩ ?_
 rintro i vs h1 _ ⟨rfl,hi,e1,hu⟩
 simp only[g0]
 refine br (fun hlt=>?_) (fun hge=>?_)
 ·obtain⟨x,hx,-,-⟩:=aP (show i < t.spans.length by omega)
  have hm:=List.mem_of_getElem? hx
  have h5:=bC hm
  (repeat' first|refine vs ?_|(refine br ?_ ?_<;>first|exact bx|intro _)|((with_reducible refine aA sO ?_);(refine aS (KA (ok x hm) (by omega) ah) ?_ ?_<;>intro hn))|((with_reducible refine aY ?_);((refine ix ?_);rintro _ _ _ _ _ ⟨_,rfl,_⟩ _))|fail)
  all_goals first
   |exact pf fun k=>jP hx (by rintro⟨a1,a2⟩;contradiction) k.1
   |exact⟨by omega,rfl,by omega,aD,upS hu hx ⟨hn,by omega⟩⟩
 ·have e:i=t.spans.length:=by omega
  rw[e] at hu
  have hu:=fV hu
  (repeat' first|refine vs ?_|(refine br ?_ ?_<;>first|exact bx|intro _)|((with_reducible refine aA bq ?_);(refine bU eZ ?_ ?_<;>intro hb<;>first|replace hb:=dx hb|replace hb:=dz hb))|fail)
  all_goals first
   |exact pt ⟨hu,by omega,by omega,by omega,by omega⟩
   |exact pf fun k=>by obtain⟨a1,a2,a3,a4,a5⟩:=k;omega
theorem adZ {h:AH} {t:Trail} {v:AV} {F:List Nat} (ok:∀ x∈t.spans,Cel.ok x) (hs:Sz.sz t≤67108864) (r:au h v t.spans F):aM Tryz.prog Ej [.agg (t.cs v)] h (.bool (bp (Gu t))):=by
 refine reader (afc _) (by simp only[old]) ?_
 unfold Rj
 have hsz:Sz.sz t=t.spans.length+szs t.spans:=rfl
 have hsm:=r.small
 refine vs ?_
 refine aT t.spans.length (fun i vs h1=>vs=[.int .i64 (i:Int)]∧i≤t.spans.length∧Ext (h.push ⟨t.cs v,0,0⟩) h1∧cu t.spans (fun _ s=>qG s∧s.trace=t.id) i) ⟨rfl,Nat.zero_le _,aD,up0⟩ ?_
 rintro i vs h1 _ ⟨rfl,hi,e1,hu⟩
 simp only[g0]
 refine vs ?_
 refine br (fun hlt=>?_) (fun hge=>?_)
 ·obtain⟨x,hx,-,-⟩:=aP (show i < t.spans.length by omega)
  have hm:=List.mem_of_getElem? hx
  have h5:=bC hm
  (repeat' first|refine vs ?_|(refine br ?_ ?_<;>first|exact bx|intro _)|((with_reducible refine aA sM ?_);(refine aS (Ky (ok x hm) (by omega) ah) ?_ ?_<;>intro hn))|((with_reducible refine aY ?_);((refine ix ?_);rintro _ _ _ _ _ ⟨_,rfl,_⟩ _))|fail)
  all_goals first
   |exact pf fun k=>jP hx (by rintro⟨a1,a2⟩;contradiction) k.1
   |exact⟨by omega,rfl,by omega,aD,upS hu hx ⟨hn,by omega⟩⟩
 ·have e:i=t.spans.length:=by omega
  rw[e] at hu
  have hu:=fV hu
  (repeat' first|refine vs ?_|(refine br ?_ ?_<;>first|exact bx|intro _)|((with_reducible refine aA bQ ?_);(refine bU jr ?_ ?_<;>intro hb<;>first|replace hb:=dx hb|replace hb:=dz hb))|fail)
  all_goals first
   |exact pt ⟨hu,by omega,by omega,by omega,by omega⟩
   |exact pf fun k=>by obtain⟨a1,a2,a3,a4,a5⟩:=k;omega
def fits (c:iL) (s:Span):Prop:=qG s∧dW s≤c.budget
end Go.Proofs.YtkdjapahgmflbaaGreat
end
section
set_option maxHeartbeats 1000000
namespace Go.Proofs.YtkdjapahgmflbaaGreat
open Go Go.Ab
section
def Qr (x0:AV):Prog:=.op (.box x0) fun a=>.op (.alloc iZ) fun b=>Lg 5 a fun c=>.op (.app 4 48 .aC c) fun c=>Sg 5 a c fun _=>Ld 6 a fun a=>.op (.st 6 b a) fun _=>.fin [.cn 6 b]
theorem adC (x0:AV):CC Tryz.prog kY [x0] (Qr x0):=cc Tryz.func138
def SF (x0:AV):Prog:=.op (.box x0) fun a=>.op (.alloc iZ) fun b=>.op (.aU 4 0 [] []) fun c=>Lg 5 a fun d=>.op (.app 4 48 c d) fun c=>Sg 5 a c fun _=>Ld 6 a fun a=>.op (.st 6 b a) fun _=>.fin [.cn 6 b]
theorem ag2 (x0:AV):CC Tryz.prog lW [x0] (SF x0):=cc Tryz.func260
def abH (x0:AV):Prog:=Ln 0 x0 fun a=>.loop [.aC,.int .i64 0] (fun b=>Bn .lss (g b 1) a fun a=>.ite a (Ix 6 x0 (g b 1) fun a=>Ld 6 a fun a=>.op (.alloc iZ) fun c=>.op (.st 6 c a) fun _=>Ld 6 c fun a=>Cl kY [a] fun a=>.op (.aU 6 1 iZ [(0,6,a)]) fun a=>.op (.app 6 64 (g b 0) a) fun a=>Bn .add (g b 1) (.int .i64 1) fun b=>.leaf 0 [a,b]) (.leaf 2 [g b 0,g b 1])) fun a b=>aB a 1 (.leaf 1 b) (aB a 2 (.fin [.val (g b 0)]) .bad)
theorem ab7 (x0:AV):CC Tryz.prog Dv [x0] (abH x0):=cc Tryz.func243 [3,6,7,8] (fun _=>[])
def aie (x0:AV):Prog:=.op (.aU 6 0 [] []) fun a=>.loop [a,.int .i64 0] (fun a=>Ln 0 x0 fun b=>Bn .lss (g a 1) b fun b=>.ite b (Ix 6 x0 (g a 1) fun b=>Ld 6 b fun b=>Cl lW [b] fun b=>.op (.alloc iZ) fun c=>.op (.st 6 c b) fun _=>Ld 6 c fun b=>.op (.aU 6 1 iZ [(0,6,b)]) fun b=>.op (.app 6 64 (g a 0) b) fun b=>Bn .add (g a 1) (.int .i64 1) fun a=>.leaf 0 [b,a]) (.leaf 2 [g a 0,g a 1])) fun a b=>aB a 1 (.leaf 1 b) (aB a 2 (.fin [.val (g b 0)]) .bad)
theorem aik (x0:AV):CC Tryz.prog FE [x0] (aie x0):=cc Tryz.func302 [0,3,4] (fun _=>[])
def Pp (x0:AV):Prog:=.op (.box x0) fun a=>.op (.alloc [.int .i64 0,.int .i64 0,.int .i64 0,.aC]) fun b=>Lg 3 a fun c=>Cl Dv [c] fun c=>Sg 3 a c fun _=>Ld 4 a fun a=>.op (.st 4 b a) fun _=>.fin [.cn 4 b]
theorem ab6 (x0:AV):CC Tryz.prog zY [x0] (Pp x0):=cc Tryz.func129
def Rf (x0:AV):Prog:=.op (.box x0) fun a=>.op (.alloc [.int .i64 0,.int .i64 0,.int .i64 0,.aC]) fun b=>Lg 3 a fun c=>Cl FE [c] fun c=>Sg 3 a c fun _=>Ld 4 a fun a=>.op (.st 4 b a) fun _=>.fin [.cn 4 b]
theorem ae9 (x0:AV):CC Tryz.prog uR [x0] (Rf x0):=cc Tryz.func209
def aaV (x0:AV):Prog:=Ln 0 x0 fun a=>.loop [.aC,.int .i64 0] (fun b=>Bn .lss (g b 1) a fun a=>.ite a (Ix 4 x0 (g b 1) fun a=>Ld 4 a fun a=>.op (.alloc [.int .i64 0,.int .i64 0,.int .i64 0,.aC]) fun c=>.op (.st 4 c a) fun _=>Ld 4 c fun a=>Cl zY [a] fun a=>.op (.aU 4 1 [.int .i64 0,.int .i64 0,.int .i64 0,.aC] [(0,4,a)]) fun a=>.op (.app 4 48 (g b 0) a) fun a=>Bn .add (g b 1) (.int .i64 1) fun b=>.leaf 0 [a,b]) (.leaf 2 [g b 0,g b 1])) fun a b=>aB a 1 (.leaf 1 b) (aB a 2 (.fin [.val (g b 0)]) .bad)
theorem aa3 (x0:AV):CC Tryz.prog uK [x0] (aaV x0):=cc Tryz.func277 [3,6,7,8] (fun _=>[])
def agR (x0:AV):Prog:=.op (.aU 4 0 [] []) fun a=>.loop [a,.int .i64 0] (fun a=>Ln 0 x0 fun b=>Bn .lss (g a 1) b fun b=>.ite b (Ix 4 x0 (g a 1) fun b=>Ld 4 b fun b=>Cl uR [b] fun b=>.op (.alloc [.int .i64 0,.int .i64 0,.int .i64 0,.aC]) fun c=>.op (.st 4 c b) fun _=>Ld 4 c fun b=>.op (.aU 4 1 [.int .i64 0,.int .i64 0,.int .i64 0,.aC] [(0,4,b)]) fun b=>.op (.app 4 48 (g a 0) b) fun b=>Bn .add (g a 1) (.int .i64 1) fun a=>.leaf 0 [b,a]) (.leaf 2 [g a 0,g a 1])) fun a b=>aB a 1 (.leaf 1 b) (aB a 2 (.fin [.val (g b 0)]) .bad)
theorem ag7 (x0:AV):CC Tryz.prog vg [x0] (agR x0):=cc Tryz.func258 [0,3,4] (fun _=>[])
def OC (x0:AV):Prog:=Ln 0 x0 fun a=>.loop [.aC,.int .i64 0] (fun b=>Bn .lss (g b 1) a fun a=>.ite a (Ix 2 x0 (g b 1) fun a=>Ld 2 a fun a=>.op (.alloc [.int .i64 0,.aC]) fun c=>.op (.st 2 c a) fun _=>.op (.fad 0 c) fun a=>.op (.ld1 a) fun d=>Lg 1 c fun c=>Cl uK [c] fun c=>.chk (.ld1 a) d (.op (.build [.int .i64 0,.aC] [(0,1,d),(1,1,c)]) fun a=>.op (.aU 2 1 [.int .i64 0,.aC] [(0,2,a)]) fun a=>.op (.app 2 32 (g b 0) a) fun a=>Bn .add (g b 1) (.int .i64 1) fun b=>.leaf 0 [a,b])) (.leaf 2 [g b 0,g b 1])) fun a b=>aB a 1 (.leaf 1 b) (aB a 2 (.fin [.val (g b 0)]) .bad)
theorem aaB (x0:AV):CC Tryz.prog Dc [x0] (OC x0):=cc Tryz.func172 [3,6,7,8] (fun r=>if r=5 then[(0,[]),(1,[]),(2,[]),(3,[]),(4,[]),(5,[2]),(6,[]),(7,[]),(8,[]),(9,[])] else[])
def Rc (x0:AV):Prog:=.op (.aU 2 0 [] []) fun a=>.loop [a,.int .i64 0] (fun a=>Ln 0 x0 fun b=>Bn .lss (g a 1) b fun b=>.ite b (Ix 2 x0 (g a 1) fun b=>.op (.fad 0 b) fun b=>.op (.ld1 b) fun c=>Ix 2 x0 (g a 1) fun d=>Lg 1 d fun d=>Cl vg [d] fun d=>.chk (.ld1 b) c (.op (.build [.int .i64 0,.aC] [(0,1,c),(1,1,d)]) fun b=>.op (.aU 2 1 [.int .i64 0,.aC] [(0,2,b)]) fun b=>.op (.app 2 32 (g a 0) b) fun b=>Bn .add (g a 1) (.int .i64 1) fun a=>.leaf 0 [b,a])) (.leaf 2 [g a 0,g a 1])) fun a b=>aB a 1 (.leaf 1 b) (aB a 2 (.fin [.val (g b 0)]) .bad)
theorem ae8 (x0:AV):CC Tryz.prog Ei [x0] (Rc x0):=cc Tryz.func146 [0,3,4] (fun r=>if r=5 then[(0,[]),(1,[]),(2,[]),(3,[]),(4,[]),(5,[]),(6,[]),(7,[]),(8,[]),(9,[]),(10,[]),(11,[5]),(12,[]),(13,[]),(14,[]),(15,[])] else[])
end
theorem rY (x:Span) (hs:Sz.sz x≤67108864):dO Span Tryz.prog kY x:=by
 rintro cs F h ⟨v0,rfl,r0⟩
 have hs:(x.attrs.length+szs x.attrs)≤67108864:=hs
 refine adC _ ?_
 unfold Qr
 (repeat' first|refine vs ?_|fail)
 refine app0 (n:=h.n+2) (ys:=x.attrs) (Fy:=F) ah (oU (α:=Attr) r0 _) aO rfl (by omega) ?_
 intro u h' F' e r' o'
 have n1:=e.1
 simp only[aH] at n1
 (repeat' first|refine vs ?_|fail)
 exact⟨rfl,_,rfl,aD,_,_,rfl,⟨_,rfl,ah⟩,bA⟩
theorem sI (x:Span) (hs:Sz.sz x≤67108864):dO Span Tryz.prog lW x:=by
 rintro cs F h ⟨v0,rfl,r0⟩
 have hs:(x.attrs.length+szs x.attrs)≤67108864:=hs
 refine ag2 _ ?_
 unfold SF
 (repeat' first|refine vs ?_|fail)
 refine CK (n:=h.n+2) (ys:=x.attrs) (Fy:=F) ah (oU (α:=Attr) r0 _) aO rfl (by omega) ?_
 intro u h' F' e r' o'
 have n1:=e.1
 simp only[aH] at n1
 (repeat' first|refine vs ?_|fail)
 exact⟨rfl,_,rfl,aD,_,_,rfl,⟨_,rfl,ah⟩,bA⟩
theorem abm (xs:List Span) (hs:xs.length+szs xs≤67108864):gG Tryz.prog Dv xs:=fun v F h r=>
 ab7 _ (VL rfl rfl (by decide) (fun x hx=>rY x (by have:=bC hx;omega)) r (by omega))
theorem ahZ (xs:List Span) (hs:xs.length+szs xs≤67108864):gG Tryz.prog FE xs:=fun v F h r=>
 aik _ (LK rfl rfl (by decide) (fun x hx=>sI x (by have:=bC hx;omega)) r (by omega))
theorem OT (x:Trail) (hs:Sz.sz x≤67108864):dO Trail Tryz.prog zY x:=by
 rintro cs F h ⟨v0,rfl,r0⟩
 have hs:(x.spans.length+szs x.spans)≤67108864:=hs
 refine ab6 _ ?_
 unfold Pp
 (repeat' first|refine vs ?_|((with_reducible refine aA Dv ?_);(refine aK (abm _ hs _ _ _ ah) ?_;rintro _ _ ⟨e_,_,_,_⟩;have n_:=e_.1;(try simp only[aH,aN] at n_)))|fail)
 exact⟨rfl,_,rfl,aD,_,_,rfl,⟨_,rfl,ah⟩,bA⟩
theorem JX (x:Trail) (hs:Sz.sz x≤67108864):dO Trail Tryz.prog uR x:=by
 rintro cs F h ⟨v0,rfl,r0⟩
 have hs:(x.spans.length+szs x.spans)≤67108864:=hs
 refine ae9 _ ?_
 unfold Rf
 (repeat' first|refine vs ?_|((with_reducible refine aA FE ?_);(refine aK (ahZ _ hs _ _ _ ah) ?_;rintro _ _ ⟨e_,_,_,_⟩;have n_:=e_.1;(try simp only[aH,aN] at n_)))|fail)
 exact⟨rfl,_,rfl,aD,_,_,rfl,⟨_,rfl,ah⟩,bA⟩
theorem Jg (xs:List Trail) (hs:xs.length+szs xs≤67108864):gG Tryz.prog uK xs:=fun v F h r=>
 aa3 _ (VL rfl rfl (by decide) (fun x hx=>OT x (by have:=bC hx;omega)) r (by omega))
theorem ER (xs:List Trail) (hs:xs.length+szs xs≤67108864):gG Tryz.prog vg xs:=fun v F h r=>
 ag7 _ (LK rfl rfl (by decide) (fun x hx=>JX x (by have:=bC hx;omega)) r (by omega))
theorem Ox (xs:List aQ) (hs:xs.length+szs xs≤67108864):gG Tryz.prog Dc xs:=by
 intro v F h r
 refine aaB _ ?_
 unfold OC
 have hsm:=r.small
 refine bP r ?_
 refine aT xs.length (fun i vs h1=>∃ u G,vs=[u,.int .i64 (i:Int)]∧i≤xs.length∧Ext h h1∧au h1 u (xs.take i) G∧Own h.n h1 G) ⟨.aC,[],rfl,Nat.zero_le _,Ext.refl _,au.aC,Own.nil⟩ ?_
 rintro i vs h1 _ ⟨u,G,rfl,hi,e1,ru,ou⟩
 have n1:=e1.1
 simp only[g0,g1]
 refine br (fun hlt=>?_) (fun hge=>?_)
 ·obtain⟨x,hx,-,htk⟩:=aP (show i < xs.length by omega)
  have hm:=bC (List.mem_of_getElem? hx)
  have hx2:Sz.sz x=x.l.length+szs x.l:=rfl
  refine vs ?_
  refine bV r hx rfl ?_
  rintro b o _ Fi a ⟨v0,rfl,r0⟩ _
  (repeat' first|refine vs ?_|((with_reducible refine aA uK ?_);(refine aK (Jg x.l (by omega) _ _ _ ah) ?_;rintro w2 h2 ⟨e2,G2,q2,o2⟩;have n2:=e2.1;(try simp only[aH,aN] at n2)))|fail)
  have hlen:(xs.take i).length=i:=by rw[List.length_take];omega
  refine app1 (n:=h.n) (xs:=xs.take i) (Fx:=G) (a:=x) ah ⟨_,rfl,q2⟩ (fK (bA) o2 (by simp only[aH];omega) kK) aO rfl ?_ ?_ ?_
  ·rw[hlen];omega
  ·rw[hlen];omega
  intro u' h' F' ek kp r' o'
  (repeat' first|refine vs ?_|fail)
  exact⟨by omega,u',F',rfl,by omega,ek h aD (Nat.le_refl _),by rw[htk];exact r',o'⟩
 ·(repeat' first|refine vs ?_|fail)
  exact⟨rfl,u,rfl,e1,G,by rw[show i=xs.length by omega,List.take_length] at ru;exact ru,ou⟩
theorem QG (xs:List aQ) (hs:xs.length+szs xs≤67108864):gG Tryz.prog Ei xs:=by
 intro v F h r
 refine ae8 _ ?_
 unfold Rc
 have hsm:=r.small
 obtain⟨re,oe⟩:=jy (h:=h) (α:=aQ) (w:=2) rfl
 refine vs ?_
 refine aT xs.length (fun i vs h1=>∃ u G,vs=[u,.int .i64 (i:Int)]∧i≤xs.length∧Ext h h1∧au h1 u (xs.take i) G∧Own h.n h1 G) ⟨_,_,rfl,Nat.zero_le _,(Ext.refl _).push _,by rw[List.take_zero];exact re,oe _ (Nat.le_refl _)⟩ ?_
 rintro i vs h1 _ ⟨u,G,rfl,hi,e1,ru,ou⟩
 have n1:=e1.1
 simp only[g0,g1]
 refine bP r ?_
 refine br (fun hlt=>?_) (fun hge=>?_)
 ·obtain⟨x,hx,-,htk⟩:=aP (show i < xs.length by omega)
  have hm:=bC (List.mem_of_getElem? hx)
  have hx2:Sz.sz x=x.l.length+szs x.l:=rfl
  (repeat' first|refine vs ?_|((with_reducible refine aA vg ?_);(refine aK (ER x.l (by omega) _ _ _ ah) ?_;rintro w2 h2 ⟨e2,G2,q2,o2⟩;have n2:=e2.1;(try simp only[aH,aN] at n2)))|((with_reducible refine aY ?_);((refine ix ?_);rintro _ _ _ _ _ ⟨_,rfl,_⟩ _))|fail)
  have hlen:(xs.take i).length=i:=by rw[List.length_take];omega
  refine app1 (n:=h.n) (xs:=xs.take i) (Fx:=G) (a:=x) ah ⟨_,rfl,q2⟩ (fK (bA) o2 (by omega) kK) aO rfl ?_ ?_ ?_
  ·rw[hlen];omega
  ·rw[hlen];omega
  intro u' h' F' ek kp r' o'
  (repeat' first|refine vs ?_|fail)
  exact⟨by omega,u',F',rfl,by omega,ek h aD (Nat.le_refl _),by rw[htk];exact r',o'⟩
 ·(repeat' first|refine vs ?_|fail)
  exact⟨rfl,u,rfl,e1,G,by rw[show i=xs.length by omega,List.take_length] at ru;exact ru,ou⟩
end Go.Proofs.YtkdjapahgmflbaaGreat
end
section
set_option maxHeartbeats 1000000
namespace Go.Proofs.YtkdjapahgmflbaaGreat
open Go Go.Ab
section
def Pw (x0:AV):Prog:=Ln 0 x0 fun a=>.loop [.aC,.int .i64 0] (fun b=>Bn .lss (g b 1) a fun a=>.ite a (Ix 2 x0 (g b 1) fun a=>Ld 2 a fun a=>.op (.alloc [.int .i64 0,.aC]) fun c=>.op (.st 2 c a) fun _=>Lg 1 c fun a=>Cl uK [a] fun a=>.op (.app 4 48 (g b 0) a) fun a=>Bn .add (g b 1) (.int .i64 1) fun b=>.leaf 0 [a,b]) (.leaf 2 [g b 0,g b 1])) fun a b=>aB a 1 (.leaf 1 b) (aB a 2 (.fin [.val (g b 0)]) .bad)
theorem ace (x0:AV):CC Tryz.prog zZ [x0] (Pw x0):=cc Tryz.func201 [3,6,7,8] (fun _=>[])
def PI (x0:AV):Prog:=Cl zZ [x0] fun a=>Ln 0 a fun b=>.loop [.int .i64 0,.int .i64 0] (fun c=>Bn .lss (g c 1) b fun b=>.ite b (Ix 4 a (g c 1) fun a=>Ld 4 a fun a=>.op (.alloc [.int .i64 0,.int .i64 0,.int .i64 0,.aC]) fun b=>.op (.st 4 b a) fun _=>Ld 4 b fun a=>Cl xB [a] fun a=>Bn .add (g c 0) a fun a=>Bn .add (g c 1) (.int .i64 1) fun b=>.leaf 0 [a,b]) (.leaf 2 [g c 0,g c 1])) fun a b=>aB a 1 (.leaf 1 b) (aB a 2 (.fin [.val (g b 0)]) .bad)
theorem aco (x0:AV):CC Tryz.prog Dy [x0] (PI x0):=cc Tryz.func215 [3,7,8,9] (fun _=>[])
def O6 (x0:AV):Prog:=.loop [.int .i64 0,.int .i64 0,.tup []] (fun a=>Ln 0 x0 fun b=>Bn .lss (g a 1) b fun b=>.ite b (.loop [g a 0,.int .i64 0] (fun b=>Ix 2 x0 (g a 1) fun c=>Lg 1 c fun c=>Ln 0 c fun c=>Bn .lss (g b 1) c fun c=>.ite c (Ix 2 x0 (g a 1) fun a=>Lg 1 a fun a=>Ix 4 a (g b 1) fun a=>Ld 4 a fun a=>Cl uS [a] fun a=>Bn .add (g b 0) a fun a=>Bn .add (g b 1) (.int .i64 1) fun b=>.leaf 0 [a,b]) (.leaf 4 [g b 0,g b 1])) fun b c=>aB b 1 (.leaf 1 c) (aB b 4 (Bn .add (g a 1) (.int .i64 1) fun a=>.leaf 0 [g c 0,a,g c 1]) .bad)) (.leaf 2 [g a 0,g a 1,g a 2])) fun a b=>aB a 1 (.leaf 1 b) (aB a 2 (.fin [.val (g b 0)]) .bad)
theorem abO (x0:AV):CC Tryz.prog Dn [x0] (O6 x0):=cc Tryz.func155 [0,3,4,5] (fun _=>[])
end
def allT (l:List aQ):List Trail:=l.flatMap (·.l)
theorem Cb {l:List aQ} {i:Nat} {x:aQ} (ht:l.take (i+1)=l.take i++[x]):allT (l.take (i+1))=allT (l.take i)++x.l:=by rw[ht];simp[allT]
theorem yG {α:Type} [Sz α]:∀ l r:List α,szs (l++r)=szs l+szs r
 |[],r=>by simp[szs]
 |x::l,r=>by simp only[List.cons_append,szs,yG l];omega
theorem wC:∀ l:List aQ,(allT l).length+szs (allT l)≤szs l
 |[]=>by simp[allT,szs]
 |x::l=>by
  have:=wC l
  have e:allT (x::l)=x.l++allT l:=by simp[allT]
  have h2:Sz.sz x=x.l.length+szs x.l:=rfl
  rw[e,List.length_append,yG];simp only[szs];omega
theorem Jo {h:AH} {l:List aQ} {v:AV} {F:List Nat} (hs:l.length+szs l≤67108864) (r:au h v l F):bN Tryz.prog zZ [v] h (oz Trail h (allT l)):=by
 refine ace _ ?_
 unfold Pw
 have hsm:=r.small
 refine bP r ?_
 refine aT l.length (fun i vs h1=>∃ u G,vs=[u,.int .i64 (i:Int)]∧i≤l.length∧Ext h h1∧au h1 u (allT (l.take i)) G∧Own h.n h1 G) ⟨.aC,[],rfl,Nat.zero_le _,Ext.refl _,au.aC,Own.nil⟩ ?_
 rintro i vs h1 _ ⟨u,G,rfl,hi,e1,ru,ou⟩
 have n1:=e1.1
 simp only[g0,g1]
 have hlen:=wC (l.take i)
 have hle:=jJ l i
 refine br (fun hlt=>?_) (fun hge=>?_)
 ·obtain⟨x,hx,-,htk⟩:=aP (show i < l.length by omega)
  have hm:=bC (List.mem_of_getElem? hx)
  have hx2:Sz.sz x=x.l.length+szs x.l:=rfl
  refine vs ?_
  refine bV r hx rfl ?_
  rintro b o _ Fi a ⟨v0,rfl,r0⟩ _
  (repeat' first|refine vs ?_|((with_reducible refine aA uK ?_);(refine aK (Jg x.l (by omega) _ _ _ ah) ?_;rintro w2 h2 ⟨e2,G2,q2,o2⟩;have n2:=e2.1;(try simp only[aH,aN] at n2)))|fail)
  refine am4 (n:=h.n) (xs:=allT (l.take i)) (ys:=x.l) (Fx:=G) (Fy:=G2) ah q2 (fK (bA) o2 aO kK) aO rfl ?_ ?_ ?_
  ·omega
  ·omega
  intro u' h' F' ek kp r' o'
  (repeat' first|refine vs ?_|fail)
  exact⟨by omega,u',F',rfl,by omega,ek h aD (Nat.le_refl _),by rw[Cb htk];exact r',o'⟩
 ·(repeat' first|refine vs ?_|fail)
  exact⟨rfl,u,rfl,e1,G,by rw[show i=l.length by omega,List.take_length] at ru;exact ru,ou⟩
def jK (t:Trail):Int:=dB dW t.spans
theorem FC (t:Trail):0≤jK t∧jK t≤0+12 * (Sz.sz t:Nat):=by
 have h:=qF AB t.spans
 have h2:Sz.sz t=t.spans.length+szs t.spans:=rfl
 unfold jK;omega
def held (l:List aQ):Int:=dB jK (allT l)
theorem ami (l:List aQ):0≤held l∧held l≤12 * (szs l:Nat):=by
 have h:=qF FC (allT l)
 have:=wC l
 unfold held;omega
theorem Xj (l:List Trail):0≤dB jK l∧dB jK l≤12 * (szs l:Nat):=by
 have h:=qF FC l;omega
theorem abt {h:AH} {l:List aQ} {v:AV} {F:List Nat} (hs:l.length+szs l≤67108864) (r:au h v l F):aM Tryz.prog Dy [v] h (.int .i64 (held l)):=by
 refine reader (aco _) (by simp only[old]) ?_
 unfold PI
 refine aK (Jo hs r) ?_
 rintro w1 h1 ⟨e1,G1,q1,o1⟩
 have hall:=wC l
 refine bP q1 ?_
 refine aT (allT l).length (fun i vs h2=>vs=[.int .i64 (dB jK ((allT l).take i)),.int .i64 (i:Int)]∧i≤(allT l).length∧Ext h1 h2) ⟨by simp[dB],Nat.zero_le _,Ext.refl _⟩ ?_
 rintro i vs h2 _ ⟨rfl,hi,e2⟩
 simp only[g0,g1]
 have hb:=Xj ((allT l).take i)
 have hle:=jJ (allT l) i
 refine br (fun hlt=>?_) (fun hge=>?_)
 ·obtain⟨x,hx,-,htk⟩:=aP (show i < (allT l).length by omega)
  have hm:=bC (List.mem_of_getElem? hx)
  have hxb:=FC x
  refine vs ?_
  refine bV q1 hx rfl ?_
  rintro b o _ Fi a ⟨v0,rfl,r0⟩ _
  (repeat' first|refine vs ?_|((with_reducible refine aA xB ?_);refine aJ (QT (by omega) ah) ?_)|fail)
  refine vX (by unfold jK at *;omega) (by unfold jK at *;omega) ?_
  (repeat' first|refine vs ?_|fail)
  exact⟨by omega,by rw[oP _ htk];rfl,by omega,aD⟩
 ·(repeat' first|refine vs ?_|fail)
  refine pi ?_ (e1.trans e2)
  rw[show i=(allT l).length by omega,List.take_length];rfl
theorem aa9 {h:AH} {l:List aQ} {v:AV} {F:List Nat} (hs:l.length+szs l≤67108864) (r:au h v l F):aM Tryz.prog Dn [v] h (.int .i64 (held l)):=by
 refine reader (abO _) (by simp only[old]) ?_
 unfold O6
 have hsm:=r.small
 refine aT l.length (fun i vs h2=>∃ z,vs=[.int .i64 (held (l.take i)),.int .i64 (i:Int),z]∧i≤l.length∧Ext h h2) ⟨_,rfl,Nat.zero_le _,Ext.refl _⟩ ?_
 rintro i vs h2 _ ⟨z,rfl,hi,e2⟩
 simp only[g0,g1]
 have hb:=ami (l.take i)
 have hle:=jJ l i
 refine bP r ?_
 refine br (fun hlt=>?_) (fun hge=>?_)
 ·obtain⟨x,hx,-,htk⟩:=aP (show i < l.length by omega)
  have hm:=bC (List.mem_of_getElem? hx)
  have hx2:Sz.sz x=x.l.length+szs x.l:=rfl
  have hhs:held (l.take (i+1))=held (l.take i)+dB jK x.l:=by unfold held;rw[Cb htk,Gh]
  refine dM ?_
  have hsx:x.l.length < 281474976710656:=by omega
  refine aT x.l.length (fun j vs h3=>vs=[.int .i64 (held (l.take i)+dB jK (x.l.take j)),.int .i64 (j:Int)]∧j≤x.l.length∧Ext h h3) ⟨by simp[dB],Nat.zero_le _,e2⟩ ?_
  rintro j vs h3 _ ⟨rfl,hj,e3⟩
  simp only[g0,g1]
  have hb2:=Xj (x.l.take j)
  have hle2:=jJ x.l j
  refine bV r hx rfl ?_
  rintro b o _ Fi a ⟨v0,rfl,r0⟩ _
  refine vs ?_
  refine br (fun hlt2=>?_) (fun nk=>?_)
  ·obtain⟨y,hy,-,nY⟩:=aP (show j < x.l.length by omega)
   have hm2:=bC (List.mem_of_getElem? hy)
   have hyb:=FC y
   (repeat' first|refine vs ?_|((with_reducible refine aA uS ?_);refine aJ (JZ (by omega) ah) ?_)|((with_reducible refine aY ?_);((refine ix ?_);rintro _ _ _ _ _ ⟨_,rfl,_⟩ _))|fail)
   refine vX (by unfold jK at *;omega) (by unfold jK at *;omega) ?_
   (repeat' first|refine vs ?_|fail)
   exact⟨by omega,by rw[oP _ nY,Int.add_assoc];rfl,by omega,aD⟩
  ·(repeat' first|refine vs ?_|fail)
   exact⟨by omega,_,by rw[hhs,show j=x.l.length by omega,List.take_length];rfl,by omega,aD⟩
 ·(repeat' first|refine vs ?_|fail)
  refine pi ?_ aD
  rw[show i=l.length by omega,List.take_length]
end Go.Proofs.YtkdjapahgmflbaaGreat
end
section
set_option maxHeartbeats 1000000
namespace Go.Proofs.YtkdjapahgmflbaaGreat
open Go Go.Ab
section
def PK (x0 x1:AV):Prog:=.op (.alloc [.int .i64 0,.int .i64 0,.int .i64 0,.aC]) fun a=>Ln 0 x0 fun b=>Bn .eql b (.int .i64 0) fun b=>.ite b (.op (.build [.int .i64 0,.int .i64 0,.int .i64 0,.aC] []) fun b=>.op (.st 4 a b) fun _=>.fin [.cn 4 a,.val (.bool false)]) (Ln 0 x0 fun b=>Cl jU [x1,b] fun b=>Ix 2 x0 b fun b=>Ld 2 b fun b=>.op (.alloc [.int .i64 0,.aC]) fun c=>.op (.st 2 c b) fun _=>Lg 1 c fun b=>Cl oJ [b,x1] fun b=>Bn .lss b (.int .i64 0) fun d=>.ite d (.op (.build [.int .i64 0,.int .i64 0,.int .i64 0,.aC] []) fun b=>.op (.st 4 a b) fun _=>.fin [.cn 4 a,.val (.bool false)]) (Lg 1 c fun c=>Ix 4 c b fun b=>Ld 4 b fun b=>Cl zY [b] fun b=>.op (.st 4 a b) fun _=>.fin [.cn 4 a,.val (.bool true)]))
theorem acp (x0 x1:AV):CC Tryz.prog Dz [x0,x1] (PK x0 x1):=cc Tryz.func41
def O7 (x0 x1:AV):Prog:=.op (.alloc [.int .i64 0,.int .i64 0,.int .i64 0,.aC]) fun a=>Ln 0 x0 fun b=>Bn .eql b (.int .i64 0) fun b=>.ite b (.op (.build [.int .i64 0,.int .i64 0,.int .i64 0,.aC] []) fun b=>.op (.st 4 a b) fun _=>.fin [.cn 4 a,.val (.bool false)]) (Ln 0 x0 fun b=>Cl d9 [x1,b] fun b=>Ix 2 x0 b fun b=>Ld 2 b fun b=>.op (.alloc [.int .i64 0,.aC]) fun c=>.op (.st 2 c b) fun _=>Lg 1 c fun b=>Cl xq [b,x1] fun b=>Bn .lss b (.int .i64 0) fun d=>.ite d (.op (.build [.int .i64 0,.int .i64 0,.int .i64 0,.aC] []) fun b=>.op (.st 4 a b) fun _=>.fin [.cn 4 a,.val (.bool false)]) (Lg 1 c fun c=>Ix 4 c b fun b=>Ld 4 b fun b=>Cl uR [b] fun b=>.op (.st 4 a b) fun _=>.fin [.cn 4 a,.val (.bool true)]))
theorem abP (x0 x1:AV):CC Tryz.prog zT [x0,x1] (O7 x0 x1):=cc Tryz.func330
def UA (x0 x1:AV):Prog:=.op (.box x0) fun a=>.op (.box x1) fun b=>Lg 2 a fun c=>Lg 2 b fun d=>Bn .lss c d fun c=>Gf c false 2 a fun d=>Gf c false 2 b fun e=>.gop c false (.bin 0 .eql d e) fun d=>.gop c false (.mv d) fun d=>Gf d true 1 a fun a=>Gf d true 1 b fun b=>.gop d true (.bin 0 .lss a b) fun a=>.gop c false (.pick d a (.bool false)) fun a=>Pk c (.bool true) a fun a=>.fin [.val a]
theorem aiB (x0 x1:AV):CC Tryz.prog FK [x0,x1] (UA x0 x1):=cc Tryz.func202
def Uo (x0 x1:AV):Prog:=.op (.box x0) fun a=>.op (.box x1) fun b=>Lg 2 a fun c=>Lg 2 b fun d=>Bn .lss c d fun c=>Gf c false 2 a fun d=>Gf c false 2 b fun e=>.gop c false (.bin 0 .eql d e) fun d=>.gop c false (.mv d) fun d=>Gf d true 1 a fun a=>Gf d true 1 b fun b=>.gop d true (.bin 0 .lss a b) fun a=>.gop c false (.pick d a (.bool false)) fun a=>Pk c (.bool true) a fun a=>.fin [.val a]
theorem aiq (x0 x1:AV):CC Tryz.prog FI [x0,x1] (Uo x0 x1):=cc Tryz.func208
def Qy (x0:AV):Prog:=.op (.alloc [.int .i64 0,.int .i64 0,.int .i64 0,.aC]) fun a=>Cl zZ [x0] fun b=>Ln 0 b fun c=>Bn .eql c (.int .i64 0) fun c=>.ite c (.op (.build [.int .i64 0,.int .i64 0,.int .i64 0,.aC] []) fun b=>.op (.st 4 a b) fun _=>.fin [.cn 4 a,.val (.bool false)]) (Ix 4 b (.int .i64 0) fun c=>Ld 4 c fun c=>.op (.alloc [.int .i64 0,.int .i64 0,.int .i64 0,.aC]) fun d=>.op (.st 4 d c) fun _=>Ln 0 b fun c=>.loop [.int .i64 0] (fun a=>Bn .lss (g a 0) c fun c=>.ite c (Ix 4 b (g a 0) fun b=>Ld 4 b fun b=>.op (.alloc [.int .i64 0,.int .i64 0,.int .i64 0,.aC]) fun c=>.op (.st 4 c b) fun _=>Ld 4 c fun b=>Ld 4 d fun e=>Cl FK [b,e] fun b=>.scope (.ite b (Ld 4 c fun a=>.op (.st 4 d a) fun _=>.leaf 0 []) (.leaf 0 [])) (fun _=>Bn .add (g a 0) (.int .i64 1) fun a=>.leaf 0 [a]) fun a b=>aB a 1 (.leaf 1 b) .bad) (.leaf 2 [g a 0])) fun b c=>aB b 1 (.leaf 1 c) (aB b 2 (Ld 4 d fun b=>.op (.st 4 a b) fun _=>.fin [.cn 4 a,.val (.bool true)]) .bad))
theorem adI (x0:AV):CC Tryz.prog JU [x0] (Qy x0):=cc Tryz.func103 [2,5,17,18,19] (fun _=>[])
def P9 (x0:AV):Prog:=.op (.alloc [.int .i64 0,.int .i64 0,.int .i64 0,.aC]) fun a=>.op (.build [.int .i64 0,.int .i64 0,.int .i64 0,.aC] []) fun b=>.op (.alloc [.int .i64 0,.int .i64 0,.int .i64 0,.aC]) fun c=>.op (.st 4 c b) fun _=>.loop [.bool false,.int .i64 0,.tup []] (fun a=>Ln 0 x0 fun b=>Bn .lss (g a 1) b fun b=>.ite b (.loop [g a 0,.int .i64 0] (fun b=>Ix 2 x0 (g a 1) fun d=>Lg 1 d fun d=>Ln 0 d fun d=>Bn .lss (g b 1) d fun d=>.ite d (.op (.una .not (g b 0)) fun d=>.gop d false (.mv x0) fun e=>.gop d false (.mv (g a 1)) fun f=>.gop d false (.idx 2 e f) fun e=>Gf d false 1 e fun e=>.gop d false (.mv (g b 1)) fun f=>.gop d false (.idx 4 e f) fun e=>.gop d false (.ldn 4 e) fun e=>.gop d false (.ldn 4 c) fun f=>.gop d false (.call FI [e,f]) fun e=>Pk d (.bool true) e fun d=>.scope (.ite d (Ix 2 x0 (g a 1) fun a=>Lg 1 a fun a=>Ix 4 a (g b 1) fun a=>Ld 4 a fun a=>.op (.st 4 c a) fun _=>.leaf 0 [.bool true]) (.leaf 0 [g b 0])) (fun a=>Bn .add (g b 1) (.int .i64 1) fun b=>.leaf 0 [g a 0,b]) fun a b=>aB a 1 (.leaf 1 b) .bad) (.leaf 4 [g b 0,g b 1])) fun b c=>aB b 1 (.leaf 1 c) (aB b 4 (Bn .add (g a 1) (.int .i64 1) fun a=>.leaf 0 [g c 0,a,g c 1]) .bad)) (.leaf 2 [g a 0,g a 1,g a 2])) fun b d=>aB b 1 (.leaf 1 d) (aB b 2 (Ld 4 c fun b=>Cl uR [b] fun b=>.op (.st 4 a b) fun _=>.fin [.cn 4 a,.val (g d 0)]) .bad)
theorem ada (x0:AV):CC Tryz.prog JK [x0] (P9 x0):=cc Tryz.func113 [0,2,4,5,6,7] (fun r=>if r=9 then[(0,[]),(1,[]),(2,[]),(3,[]),(4,[]),(5,[]),(6,[]),(7,[]),(8,[]),(9,[]),(10,[]),(11,[]),(12,[]),(13,[])] else[])
end
theorem yZ {α:Type} (p:α→Bool) (xs:List α):idx p xs= -1∨(0≤idx p xs∧(idx p xs).toNat < xs.length):=by
 rcases xY p xs with⟨e,-⟩|⟨i,x,e,hx,-,-⟩
 ·exact .inl e
 ·have:=(List.getElem?_eq_some_iff.1 hx).1
  right;omega
def jZ:Trail:=⟨0,0,0,[]⟩
theorem aki:Sz.sz jZ≤67108864:=by decide
def uq (α:Type) [Cel α] (h:AH) (x:α) (b:Bool):AV→AH→Prop:=fun u h'=>Ext h h'∧∃ cs F,u= .tup [.agg cs,.bool b]∧Cel.rep h' x cs F∧Own h.n h' F
def tq (x:aQ) (id:Int):Option Trail:=if idx (isId id) x.l < 0 then none else x.l[(idx (isId id) x.l).toNat]?
def fq (l:List aQ) (id:Int):Option Trail:=match l[(stripe id l.length).toNat]? with
 |none=>none
 |some x=>tq x id
def cO (l:List aQ) (id:Int):Trail:=(fq l id).getD jZ
def eG (l:List aQ) (id:Int):Bool:=(fq l id).isSome
theorem qN {l:List aQ} {id:Int} (h:fq l id=none):cO l id=jZ∧eG l id=false:=by simp[cO,eG,h]
theorem mV {l:List aQ} {id:Int} {t:Trail} (h:fq l id=some t):cO l id=t∧eG l id=true:=by simp[cO,eG,h]
theorem Bb {h:AH}:Cel.rep h jZ [.int .i64 0,.int .i64 0,.int .i64 0,.aC] []:=⟨.aC,rfl,au.aC⟩
theorem OW {h:AH} {l:List aQ} {v:AV} {F:List Nat} {id:Int} (hs:l.length+szs l≤67108864) (r:au h v l F):bN Tryz.prog Dz [v,.int .i64 id] h (uq Trail h (cO l id) (eG l id)):=by
 refine acp _ _ ?_
 unfold PK
 have hsm:=r.small
 have hst:l.length=0∨(0≤stripe id l.length∧stripe id l.length < l.length):=by
  by_cases e:l.length=0
  ·exact .inl e
  ·exact .inr (iU (by omega))
 (repeat' first|refine vs ?_|(refine br ?_ ?_<;>first|exact bx|intro _)|((with_reducible refine aA jU ?_);refine aJ rZ ?_)|((with_reducible refine aA oJ ?_);refine aJ (Ae ah) ?_)|((with_reducible refine aY ?_);(((refine ku ?_;intro _ _));rintro _ _ _ _ _ ⟨_,rfl,_⟩ _))|fail)
 ·rename_i e
  have:fq l id=none:=by unfold fq;rw[List.getElem?_eq_none (by omega)]
  rw[(qN this).1,(qN this).2]
  exact⟨rfl,_,rfl,aD,_,[],rfl,Bb,Own.nil⟩
 ·rename_i x hx b o Fi a w hrep hsub hlt
  have:fq l id=none:=by unfold fq;rw[hx];simp only[tq];rw[if_pos hlt]
  rw[(qN this).1,(qN this).2]
  exact⟨rfl,_,rfl,aD,_,[],rfl,Bb,Own.nil⟩
 ·rename_i x hx b o Fi a w hrep hsub hlt
  have hb:=yZ (isId id) x.l
  have hm:=bC (List.mem_of_getElem? hx)
  have hx2:Sz.sz x=x.l.length+szs x.l:=rfl
  obtain⟨t,ht,-,-⟩:=aP (show(idx (isId id) x.l).toNat < x.l.length by omega)
  have hm2:=bC (List.mem_of_getElem? ht)
  have:fq l id=some t:=by unfold fq;rw[hx];simp only[tq];rw[if_neg hlt];exact ht
  rw[(mV this).1,(mV this).2]
  (repeat' first|refine vs ?_|((with_reducible refine aA zY ?_);(refine aK (OT t (by omega) _ _ _ ⟨_,rfl,ah⟩) ?_;rintro _ h2 ⟨e2,_,G2,rfl,⟨w2,rfl,q2⟩,o2⟩;have n2:=e2.1;(try simp only[aH,aN] at n2)))|((with_reducible refine aY ?_);((refine ixi ?_);rintro _ _ _ _ _ ⟨_,rfl,_⟩ _))|fail)
  exact⟨rfl,_,rfl,aD,_,_,rfl,⟨_,rfl,ah⟩,bA⟩
theorem Jl {h:AH} {l:List aQ} {v:AV} {F:List Nat} {id:Int} (hs:l.length+szs l≤67108864) (r:au h v l F):bN Tryz.prog zT [v,.int .i64 id] h (uq Trail h (cO l id) (eG l id)):=by
 refine abP _ _ ?_
 unfold O7
 have hsm:=r.small
 have hst:l.length=0∨(0≤stripe id l.length∧stripe id l.length < l.length):=by
  by_cases e:l.length=0
  ·exact .inl e
  ·exact .inr (iU (by omega))
 (repeat' first|refine vs ?_|(refine br ?_ ?_<;>first|exact bx|intro _)|((with_reducible refine aA d9 ?_);refine aJ iD ?_)|((with_reducible refine aA xq ?_);refine aJ (JY ah) ?_)|((with_reducible refine aY ?_);(((refine ku ?_;intro _ _));rintro _ _ _ _ _ ⟨_,rfl,_⟩ _))|fail)
 ·rename_i e
  have:fq l id=none:=by unfold fq;rw[List.getElem?_eq_none (by omega)]
  rw[(qN this).1,(qN this).2]
  exact⟨rfl,_,rfl,aD,_,[],rfl,Bb,Own.nil⟩
 ·rename_i x hx b o Fi a w hrep hsub hlt
  have:fq l id=none:=by unfold fq;rw[hx];simp only[tq];rw[if_pos hlt]
  rw[(qN this).1,(qN this).2]
  exact⟨rfl,_,rfl,aD,_,[],rfl,Bb,Own.nil⟩
 ·rename_i x hx b o Fi a w hrep hsub hlt
  have hb:=yZ (isId id) x.l
  have hm:=bC (List.mem_of_getElem? hx)
  have hx2:Sz.sz x=x.l.length+szs x.l:=rfl
  obtain⟨t,ht,-,-⟩:=aP (show(idx (isId id) x.l).toNat < x.l.length by omega)
  have hm2:=bC (List.mem_of_getElem? ht)
  have:fq l id=some t:=by unfold fq;rw[hx];simp only[tq];rw[if_neg hlt];exact ht
  rw[(mV this).1,(mV this).2]
  (repeat' first|refine vs ?_|((with_reducible refine aA uR ?_);(refine aK (JX t (by omega) _ _ _ ⟨_,rfl,ah⟩) ?_;rintro _ h2 ⟨e2,_,G2,rfl,⟨w2,rfl,q2⟩,o2⟩;have n2:=e2.1;(try simp only[aH,aN] at n2)))|((with_reducible refine aY ?_);((refine ixi ?_);rintro _ _ _ _ _ ⟨_,rfl,_⟩ _))|fail)
  exact⟨rfl,_,rfl,aD,_,_,rfl,⟨_,rfl,ah⟩,bA⟩
def older (a b:Trail):Prop:=a.first < b.first∨(a.first=b.first∧a.stamp < b.stamp)
theorem ah9 {h:AH} {a b:Trail} {v v':AV}:aM Tryz.prog FK [.agg (a.cs v),.agg (b.cs v')] h (.bool (bp (older a b))):=by
 refine reader (aiB _ _) (by simp only[old]) ?_
 unfold UA
 (repeat' first|refine vs ?_|(refine br ?_ ?_<;>first|exact bx|intro _)|fail)
 all_goals first
  |(refine pt ?_;unfold older;omega)
  |(refine pf ?_;unfold older;omega)
theorem ah3 {h:AH} {a b:Trail} {v v':AV}:aM Tryz.prog FI [.agg (a.cs v),.agg (b.cs v')] h (.bool (bp (older a b))):=by
 refine reader (aiq _ _) (by simp only[old]) ?_
 unfold Uo
 (repeat' first|refine vs ?_|(refine br ?_ ?_<;>first|exact bx|intro _)|fail)
 all_goals first
  |(refine pt ?_;unfold older;omega)
  |(refine pf ?_;unfold older;omega)
noncomputable def iM (b:Option Trail) (t:Trail):Option Trail:=match b with
 |none=>some t
 |some b=>if bp (older t b)=true then some t else some b
noncomputable def oldest (l:List Trail):Option Trail:=l.foldl iM none
theorem YR {b t:Trail} (h:older t b):iM (some b) t=some t:=by simp[iM,fI h]
theorem M7 {b t:Trail} (h: ¬ older t b):iM (some b) t=some b:=by simp[iM,gu h]
theorem amN {a:Trail} {l:List Trail}:(a::l).foldl iM (some a)=oldest (a::l):=by
 have: ¬ older a a:=by unfold older;omega
 simp only[List.foldl_cons,M7 this,oldest]
 rfl
theorem BP {l:List Trail} {i:Nat} {x:Trail} {z:Option Trail} (ht:l.take (i+1)=l.take i++[x]):(l.take (i+1)).foldl iM z=iM ((l.take i).foldl iM z) x:=by rw[ht,List.foldl_append];rfl
theorem acR {h:AH} {l:List aQ} {v:AV} {F:List Nat} (hs:l.length+szs l≤67108864) (r:au h v l F):bN Tryz.prog JU [v] h (uq Trail h ((oldest (allT l)).getD jZ) (oldest (allT l)).isSome):=by
 refine adI _ ?_
 unfold Qy
 refine vs ?_
 refine aK (Jo hs ah) ?_
 rintro w1 h1 ⟨e1,G1,q1,o1⟩
 have n1:=e1.1
 simp only[aH] at n1 o1
 have hall:=wC l
 refine bP q1 ?_
 refine br (fun h0=>?_) (fun h0=>?_)
 ·have:allT l=[]:=List.length_eq_zero_iff.1 (by omega)
  (repeat' first|refine vs ?_|fail)
  rw[this]
  exact⟨rfl,_,rfl,aD,_,[],rfl,Bb,Own.nil⟩
 ·obtain⟨a0,ha0,hd0,-⟩:=aP (show 0 < (allT l).length by omega)
  refine vs ?_
  refine X0 (i:=0) q1 o1 ha0 rfl ?_
  rintro b o _ Fi a ⟨v0,rfl,r0⟩ _ oi
  (repeat' first|refine vs ?_|fail)
  refine aT (allT l).length (fun i vs h2=>∃ t vb Fb,vs=[.int .i64 (i:Int)]∧i≤(allT l).length∧Ext h1 h2∧Bk h2 h1.n [.int .i64 t.id,.int .i64 t.stamp,.int .i64 t.first,vb] 0∧au h1 vb t.spans Fb∧Own (h.n+1) h1 Fb∧((allT l).take i).foldl iM (some a0)=some t) ⟨a0,v0,Fi,rfl,Nat.zero_le _,aD,aV,r0,oi,rfl⟩ ?_
  rintro i vs h2 _ ⟨t,vb,Fb,rfl,hi,e2,bk,rb,ob,hf⟩
  have n2:=e2.1
  have nb:=bk.1
  simp only[g0]
  refine br (fun hlt=>?_) (fun hge=>?_)
  ·obtain⟨x,hx,-,htk⟩:=aP (show i < (allT l).length by omega)
   refine vs ?_
   refine X0 q1 o1 hx rfl ?_
   rintro b' o' _ Fi' a' ⟨v',rfl,r'⟩ _ oi'
   have rr':=jM e2 r'
   (repeat' first|refine vs ?_|((with_reducible refine aA FK ?_);(refine aS ah9 ?_ ?_<;>intro hn))|fail)
   ·exact⟨by omega,x,v',Fi',rfl,by omega,aD,aV,r',oi',by rw[BP htk,hf,YR hn]⟩
   ·exact⟨by omega,t,vb,Fb,rfl,by omega,aD,aV,rb,ob,by rw[BP htk,hf,M7 hn]⟩
  ·rw[show i=(allT l).length by omega,List.take_length] at hf
   have hA:allT l=a0::(allT l).drop 1:=by simpa using hd0
   have hold:oldest (allT l)=some t:=by rw[←hf];(conv=>lhs;rw[hA]);rw[←amN,←hA]
   rw[hold]
   (repeat' first|refine vs ?_|fail)
   exact⟨rfl,_,rfl,aD,_,_,rfl,⟨_,rfl,ah⟩,bA⟩
theorem acy {h:AH} {l:List aQ} {v:AV} {F:List Nat} (hs:l.length+szs l≤67108864) (r:au h v l F):bN Tryz.prog JK [v] h (uq Trail h ((oldest (allT l)).getD jZ) (oldest (allT l)).isSome):=by
 refine ada _ ?_
 unfold P9
 have hsm:=r.small
 (repeat' first|refine vs ?_|fail)
 refine aT l.length (fun i vs h2=>∃ z vb Fb,vs=[.bool (oldest (allT (l.take i))).isSome,.int .i64 (i:Int),z]∧i≤l.length∧Ext (h.push ⟨[.int .i64 0,.int .i64 0,.int .i64 0,.aC],0,0⟩) h2∧Bk h2 (h.n+1) [.int .i64 ((oldest (allT (l.take i))).getD jZ).id,.int .i64 ((oldest (allT (l.take i))).getD jZ).stamp,.int .i64 ((oldest (allT (l.take i))).getD jZ).first,vb] 0∧au h vb ((oldest (allT (l.take i))).getD jZ).spans Fb∧Sz.sz ((oldest (allT (l.take i))).getD jZ)≤67108864) ⟨_,.aC,[],rfl,Nat.zero_le _,aD,(show Bk _ _ [.int .i64 0,.int .i64 0,.int .i64 0,.aC] 0 from aV),au.aC,aki⟩ ?_
 rintro i vs h2 _ ⟨z,vb,Fb,rfl,hi,e2,bk,rb,hz⟩
 have nb:=bk.1
 have n2:=e2.1
 simp only[aH] at n2
 simp only[g0,g1]
 refine bP r ?_
 refine br (fun hlt=>?_) (fun hge=>?_)
 ·obtain⟨x,hx,-,htk⟩:=aP (show i < l.length by omega)
  have hm:=bC (List.mem_of_getElem? hx)
  have hx2:Sz.sz x=x.l.length+szs x.l:=rfl
  have hss:oldest (allT (l.take (i+1)))=x.l.foldl iM (oldest (allT (l.take i))):=by rw[Cb htk];simp[oldest,List.foldl_append]
  refine dM ?_
  refine aT x.l.length (fun j vs h3=>∃ vb Fb,vs=[.bool ((x.l.take j).foldl iM (oldest (allT (l.take i)))).isSome,.int .i64 (j:Int)]∧j≤x.l.length∧Ext (h.push ⟨[.int .i64 0,.int .i64 0,.int .i64 0,.aC],0,0⟩) h3∧Bk h3 (h.n+1) [.int .i64 (((x.l.take j).foldl iM (oldest (allT (l.take i)))).getD jZ).id,.int .i64 (((x.l.take j).foldl iM (oldest (allT (l.take i)))).getD jZ).stamp,.int .i64 (((x.l.take j).foldl iM (oldest (allT (l.take i)))).getD jZ).first,vb] 0∧au h vb (((x.l.take j).foldl iM (oldest (allT (l.take i)))).getD jZ).spans Fb∧Sz.sz (((x.l.take j).foldl iM (oldest (allT (l.take i)))).getD jZ)≤67108864) ⟨vb,Fb,rfl,Nat.zero_le _,e2,bk,rb,hz⟩ ?_
  rintro j vs h3 _ ⟨vb,Fb,rfl,hj,e3,bk,rb,hz⟩
  have nb3:=bk.1
  have n3:=e3.1
  simp only[aH] at n3
  simp only[g0,g1]
  refine bV r hx rfl ?_
  rintro b o _ Fi a ⟨v0,rfl,r0⟩ _
  refine vs ?_
  refine br (fun hlt2=>?_) (fun nk=>?_)
  ·obtain⟨y,hy,-,nY⟩:=aP (show j < x.l.length by omega)
   have hm2:=bC (List.mem_of_getElem? hy)
   cases Cz:(x.l.take j).foldl iM (oldest (allT (l.take i))) with
   |none=>
    have hnx:(x.l.take (j+1)).foldl iM (oldest (allT (l.take i)))=some y:=by rw[BP nY,Cz];rfl
    simp only[Cz,Option.isSome] at bk rb hz ⊢
    (repeat' first|refine vs ?_|((with_reducible refine aY ?_);((refine ix ?_);rintro _ _ _ _ _ ⟨_,rfl,_⟩ _))|fail)
    rename_i w' q' _ _
    exact⟨by omega,w',_,by rw[hnx];rfl,by omega,aD,by rw[hnx];exact(show Bk _ _ [.int .i64 y.id,.int .i64 y.stamp,.int .i64 y.first,w'] 0 from aV),by rw[hnx];exact q',by rw[hnx];simp only[Option.getD];omega⟩
   |some t=>
    simp only[Cz,Option.isSome,Option.getD] at bk rb hz ⊢
    (repeat' first|refine vs ?_|((with_reducible refine aA FI ?_);(refine aS ah3 ?_ ?_<;>intro hn))|((with_reducible refine aY ?_);((refine ix ?_);rintro _ _ _ _ _ ⟨_,rfl,_⟩ _))|fail)
    ·have hnx:(x.l.take (j+1)).foldl iM (oldest (allT (l.take i)))=some y:=by rw[BP nY,Cz,YR hn]
     rename_i w' q' _ _
     exact⟨by omega,w',_,by rw[hnx];rfl,by omega,aD,by rw[hnx];exact(show Bk _ _ [.int .i64 y.id,.int .i64 y.stamp,.int .i64 y.first,w'] 0 from aV),by rw[hnx];exact q',by rw[hnx];simp only[Option.getD];omega⟩
    ·have hnx:(x.l.take (j+1)).foldl iM (oldest (allT (l.take i)))=some t:=by rw[BP nY,Cz,M7 hn]
     exact⟨by omega,vb,_,by rw[hnx];rfl,by omega,aD,by rw[hnx];exact(show Bk _ _ [.int .i64 t.id,.int .i64 t.stamp,.int .i64 t.first,vb] 0 from aV),by rw[hnx];exact rb,by rw[hnx];simp only[Option.getD];omega⟩
  ·have e:j=x.l.length:=by omega
   rw[e,List.take_length,←hss] at bk rb hz
   (repeat' first|refine vs ?_|fail)
   exact⟨by omega,_,_,_,by rw[hss,e,List.take_length];rfl,by omega,aD,bk,rb,hz⟩
 ·have e:i=l.length:=by omega
  rw[e,List.take_length] at bk rb hz
  rw[e,List.take_length]
  (repeat' first|refine vs ?_|((with_reducible refine aA uR ?_);(refine aK (JX _ hz _ _ _ ⟨_,rfl,ah⟩) ?_;rintro _ h4 ⟨e4,_,G4,rfl,⟨w4,rfl,q4⟩,o4⟩;have n4:=e4.1;(try simp only[aH,aN] at n4)))|fail)
  exact⟨rfl,_,rfl,aD,_,_,rfl,⟨_,rfl,ah⟩,bA⟩
end Go.Proofs.YtkdjapahgmflbaaGreat
end
section
set_option maxHeartbeats 1000000
namespace Go.Proofs.YtkdjapahgmflbaaGreat
open Go Go.Ab
section
def aam (x0 x1 x2:AV):Prog:=Ln 0 x0 fun a=>.op (.zw x0 (some x1) (some x2) a) fun _=>Bn .eql x1 x2 fun a=>.ite a (.fin [.val x0]) (Ln 0 x0 fun a=>.op (.slc 4 x0 none (some x1) none) fun b=>.op (.slc 4 x0 (some x2) none none) fun c=>.op (.app 4 48 b c) fun b=>Ln 0 b fun c=>.op (.slc 4 b (some c) (some a) none) fun a=>.op (.clr 4 [.int .i64 0,.int .i64 0,.int .i64 0,.aC] a) fun _=>.fin [.val b])
theorem aao (x0 x1 x2:AV):CC Tryz.prog Jb [x0,x1,x2] (aam x0 x1 x2):=cc Tryz.func379 [] (fun r=>if r=5 then[(0,[]),(1,[]),(2,[]),(3,[]),(4,[]),(5,[]),(6,[]),(7,[])] else[])
def PL (x0 x1:AV):Prog:=Cl Dc [x0] fun a=>Ln 0 x0 fun b=>Bn .gtr b (.int .i64 0) fun b=>.scope (.ite b (Ln 0 x0 fun b=>Cl jU [x1,b] fun b=>Ix 2 a b fun a=>Lf 1 a fun b=>Cl oJ [b,x1] fun b=>Bn .geq b (.int .i64 0) fun c=>.scope (.ite c (Lf 1 a fun c=>Bn .add b (.int .i64 1) fun d=>Cl Jb [c,b,d] fun b=>Sf 1 a b fun _=>.leaf 0 []) (.leaf 0 [])) (fun _=>.leaf 0 []) fun a b=>aB a 1 (.leaf 1 b) .bad) (.leaf 0 [])) (fun _=>.fin [.val a]) fun a b=>aB a 1 (.leaf 1 b) .bad
theorem acr (x0 x1:AV):CC Tryz.prog Jz [x0,x1] (PL x0 x1):=cc Tryz.func323 [5] (fun _=>[])
def O8 (x0 x1:AV):Prog:=Cl Ei [x0] fun a=>Ln 0 x0 fun b=>Bn .eql b (.int .i64 0) fun b=>.ite b (.fin [.val a]) (Ln 0 x0 fun b=>Cl d9 [x1,b] fun b=>Ix 2 x0 b fun c=>Lg 1 c fun c=>Cl xq [c,x1] fun c=>Bn .geq c (.int .i64 0) fun d=>.scope (.ite d (Ix 2 a b fun d=>Lg 1 d fun d=>.op (.slc 4 d none (some c) none) fun d=>Ix 2 a b fun e=>Lg 1 e fun e=>Bn .add c (.int .i64 1) fun c=>.op (.slc 4 e (some c) none none) fun c=>.op (.app 4 48 d c) fun c=>Ix 2 a b fun a=>Sg 1 a c fun _=>.leaf 0 []) (.leaf 0 [])) (fun _=>.fin [.val a]) fun a b=>aB a 1 (.leaf 1 b) .bad)
theorem abQ (x0 x1:AV):CC Tryz.prog Jq [x0,x1] (O8 x0 x1):=cc Tryz.func386 [5] (fun r=>if r=7 then[(0,[]),(1,[]),(2,[]),(3,[]),(4,[]),(5,[]),(6,[]),(7,[]),(8,[]),(9,[]),(10,[]),(11,[]),(12,[]),(13,[]),(14,[]),(15,[]),(16,[]),(17,[]),(18,[]),(19,[]),(20,[])] else[])
end
theorem aak {h:AH} {xs:List Trail} {v:AV} {F:List Nat} {i n:Nat} (r:au h v xs F) (o:Own n h F) (hi:i < xs.length):
  bN Tryz.prog Jb [v,.int .i64 (i:Int),.int .i64 ((i+1:Nat):Int)] h fun u h'=>Kp h h' F∧∃ F',au h' u (xs.eraseIdx i) F'∧Own n h' F'∧∀ c∈F',c∈F:=
 aao _ _ _ (Prog.yE _ (akL (w:=4) rfl rfl r o hi) fun _ _ _ x=>x)
noncomputable def gN (l:List aQ) (id:Int):List aQ:=match l[(stripe id l.length).toNat]? with
 |none=>l
 |some x=>if idx (isId id) x.l < 0 then l else l.set (stripe id l.length).toNat {x with l:=x.l.eraseIdx (idx (isId id) x.l).toNat}
theorem V4 {l:List aQ} {id:Int} (h:l.length=0):gN l id=l:=by
 unfold gN;rw[List.getElem?_eq_none (by omega)]
theorem XT {l:List aQ} {id:Int} {x:aQ} (hx:l[(stripe id l.length).toNat]? =some x) (h:idx (isId id) x.l < 0):gN l id=l:=by
 unfold gN;rw[hx];simp only;rw[if_pos h]
theorem Ma {l:List aQ} {id:Int} {x:aQ} (hx:l[(stripe id l.length).toNat]? =some x) (h: ¬ idx (isId id) x.l < 0):gN l id=l.set (stripe id l.length).toNat {x with l:=x.l.eraseIdx (idx (isId id) x.l).toNat}:=by
 unfold gN;rw[hx];simp only;rw[if_neg h]
section
variable{P:Program} {h:AH} {Q:Nat→List AV→AH→Prop} {k:AV→Prog}
theorem aW {b o:Nat} (hk:(k (.ptr b o)).awp P h Q):(Prog.op (.bg (.ptr b o)) k).awp P h Q:=hk
end
theorem Xy {n:Nat} {h h':AH} {b:Nat} {F1 Fi Fi' F2:List Nat} (o:Own n h (b::(F1++(Fi++F2)))) (o':Own n h' Fi') (hs:∀ c∈Fi',c∈Fi) (hk:∀ c∈b::(F1++F2),(h'.get c).st=(h.get c).st):Own n h' (b::(F1++(Fi'++F2))):=by
 have hnd:=List.nodup_cons.1 o.1
 have nZ:=List.nodup_append.1 hnd.2
 have pO:=List.nodup_append.1 nZ.2.1
 refine⟨List.nodup_cons.2 ⟨fun hc=>hnd.1 ?_,List.nodup_append.2 ⟨nZ.1,List.nodup_append.2 ⟨o'.1,pO.2.1,fun a ha c hc e=>pO.2.2 a (hs a ha) c hc e⟩,fun a ha c hc e=>nZ.2.2 a ha c ?_ e⟩⟩,fun c hc=>?_⟩
 ·simp only[List.mem_append] at hc ⊢
  rcases hc with hc|hc|hc
  ·exact .inl hc
  ·exact .inr (.inl (hs _ hc))
  ·exact .inr (.inr hc)
 ·rcases List.mem_append.1 hc with hc|hc
  ·exact List.mem_append_left _ (hs c hc)
  ·exact List.mem_append_right _ hc
 ·have hc2:c∈b::(F1++F2)∨c∈Fi':=by
   simp only[List.mem_cons,List.mem_append] at hc ⊢
   rcases hc with hc|hc|hc|hc
   ·exact .inl (.inl hc)
   ·exact .inl (.inr (.inl hc))
   ·exact .inr hc
   ·exact .inl (.inr (.inr hc))
  rcases hc2 with hc2|hc2
  ·have hm:c∈b::(F1++(Fi++F2)):=by
    simp only[List.mem_cons,List.mem_append] at hc2 ⊢
    rcases hc2 with hc|hc|hc
    ·exact .inl hc
    ·exact .inr (.inl hc)
    ·exact .inr (.inr (.inr hc))
   exact⟨(o.2 c hm).1,by rw[hk c hc2];exact(o.2 c hm).2⟩
  ·exact o'.2 c hc2
theorem abu {h:AH} {l:List aQ} {v:AV} {F:List Nat} {id:Int} (hs:l.length+szs l≤67108864) (r:au h v l F):bN Tryz.prog Jz [v,.int .i64 id] h (oz aQ h (gN l id)):=by
 refine acr _ _ ?_
 unfold PL
 have hsm:=r.small
 refine aK (Ox l hs v F h r) ?_
 rintro w1 h1 ⟨e1,G1,q1,o1⟩
 refine bP r ?_
 refine br (fun hgt=>?_) (fun hle=>?_)
 ·have hsb:=iU (t:=id) (n:=l.length) (by omega)
  obtain⟨x,hx,-,-⟩:=aP (show(stripe id l.length).toNat < l.length by omega)
  have hm:=bC (List.mem_of_getElem? hx)
  have hx2:Sz.sz x=x.l.length+szs x.l:=rfl
  obtain⟨b,off,A,E,R,F1,Fi,F2,rfl,rfl,hb,hl,hes,hcs,hA,⟨vL,rfl,rL⟩,back⟩:=q1.zip hx
  have hmi:(h1.get b).st=0:=(o1.2 b (by simp)).2
  have hg:h1.get b=⟨A++(x.cs vL++R),2,0⟩:=by
   have:h1.get b=⟨(h1.get b).cells,(h1.get b).es,(h1.get b).st⟩:=rfl
   rw[this,hcs,hes,hmi];rfl
  have oL:Own h.n h1 Fi:=Mq o1
  have at1:At h1 b (off+(stripe id l.length).toNat * 2) (x.cs vL):=Oe (es:=2) (st:=0) hb hl hcs hA
  have hbn:b ∉ F1++(Fi++F2):=(List.nodup_cons.1 o1.1).1
  refine lY (dM (bP r (aJ rZ (Bp (by omega) (by omega) (aW ?_)))))
  (repeat' first|refine vs ?_|(refine br ?_ ?_<;>first|exact bx|intro _)|((with_reducible refine aA oJ ?_);refine aJ (Ae ah) ?_)|fail)
  ·rename_i hge
   have hib:=yZ (isId id) x.l
   obtain⟨i,hi⟩:∃ i:Nat,idx (isId id) x.l=i:=⟨(idx (isId id) x.l).toNat,by omega⟩
   rw[hi]
   refine aW ?_
   (repeat' first|refine vs ?_|fail)
   refine aK (aak rL oL (by omega)) ?_
   rintro u h2 ⟨k2,F',r2,o2,hsub⟩
   have hb2:h2.get b=h1.get b:=k2.2 b hb fun hc=>hbn (by simp[hc])
   refine aW (nN (Ig (by rw[hb2];exact hg) hA r2.cell rfl aX ?_))
   (repeat' first|refine vs ?_|fail)
   have hd1:∀ c∈F1++F2,c ∉ Fi∧c≠b∧c < h1.n:=by
    have hnd:=List.nodup_append.1 (List.nodup_cons.1 o1.1).2
    have pO:=List.nodup_append.1 hnd.2.1
    have hlt:=q1.lt
    intro c hc
    rcases List.mem_append.1 hc with hc'|hc'
    ·exact⟨fun hf=>hnd.2.2 c hc' c (List.mem_append_left _ hf) rfl,fun e=>hbn (e▸List.mem_append_left _ hc'),hlt c (by simp[hc'])⟩
    ·exact⟨fun hf=>pO.2.2 c hf c hc' rfl,fun e=>hbn (e▸List.mem_append_right _ (List.mem_append_right _ hc')),hlt c (by simp[hc'])⟩
   have hbF:b ∉ F':=fun hc=>hbn (by simp[hsub b hc])
   refine⟨rfl,_,rfl,?_,b::(F1++(F'++F2)),?_,?_⟩
   ·refine Ext.upd (Kp.ext e1 k2 fun c hc=>(oL.2 c hc).1) (o1.2 b (by simp)).1 _
   ·rw[Ma hx (by omega),show(idx (isId id) x.l).toNat=i by omega]
    refine back _ {x with l:=x.l.eraseIdx i} _ F' (by simp only[gY,if_true];rfl) (by simp only[gY,if_true];rfl) (by simp[live]) (by simpa using Nat.lt_of_lt_of_le hb k2.1) (fun c hc=>?_) ⟨u,rfl,?_⟩
    ·obtain⟨d1,d2,d3⟩:=hd1 c hc
     exact⟨by simp only[gY,d2,if_false];exact k2.2 c d3 d1,by simpa using Nat.lt_of_lt_of_le d3 k2.1⟩
    ·exact fC r2 hbF
   ·refine Xy o1 (o2.mono (Nat.le_refl _) fun c hc=>by have:c≠b:=fun e=>hbF (e▸hc);simp[this]) hsub fun c hc=>?_
    rcases List.mem_cons.1 hc with rfl|hc
    ·simp[hmi]
    ·obtain⟨d1,d2,d3⟩:=hd1 c hc
     simp only[gY,d2,if_false];rw[k2.2 c d3 d1]
  ·rename_i hlt
   exact⟨rfl,_,rfl,e1,_,by rw[XT hx (by omega)];exact q1,o1⟩
 ·(repeat' first|refine vs ?_|fail)
  exact⟨rfl,_,rfl,e1,_,by rw[V4 (by omega)];exact q1,o1⟩
theorem OP {h:AH} {l:List aQ} {v:AV} {F:List Nat} {id:Int} (hs:l.length+szs l≤67108864) (r:au h v l F):bN Tryz.prog Jq [v,.int .i64 id] h (oz aQ h (gN l id)):=by
 refine abQ _ _ ?_
 unfold O8
 have hsm:=r.small
 refine aK (QG l hs v F h r) ?_
 rintro w1 h1 ⟨e1,G1,q1,o1⟩
 refine bP r ?_
 refine br (fun h0=>?_) (fun h0=>?_)
 ·(repeat' first|refine vs ?_|fail)
  exact⟨rfl,_,rfl,e1,_,by rw[V4 (by omega)];exact q1,o1⟩
 ·have hsb:=iU (t:=id) (n:=l.length) (by omega)
  obtain⟨x,hx,-,-⟩:=aP (show(stripe id l.length).toNat < l.length by omega)
  have hm:=bC (List.mem_of_getElem? hx)
  have hx2:Sz.sz x=x.l.length+szs x.l:=rfl
  refine dP (bP r (aJ iD (vV r (by omega) hx rfl ?_)))
  rintro b0 o0 _ Fi0 a0 ⟨v0,rfl,r0⟩ _
  refine vs ?_
  refine aJ (JY ah) ?_
  refine br (fun hge=>?_) (fun hlt=>?_)
  ·have hib:=yZ (isId id) x.l
   obtain⟨i,hi⟩:∃ i:Nat,idx (isId id) x.l=i:=⟨(idx (isId id) x.l).toNat,by omega⟩
   have hil:i < x.l.length:=by omega
   rw[hi]
   obtain⟨b,off,A,E,R,F1,Fi,F2,rfl,rfl,hb,hl,hes,hcs,hA,⟨vL,rfl,rL⟩,back⟩:=q1.zip hx
   have hmi:(h1.get b).st=0:=(o1.2 b (by simp)).2
   have hg:h1.get b=⟨A++(x.cs vL++R),2,0⟩:=by
    have:h1.get b=⟨(h1.get b).cells,(h1.get b).es,(h1.get b).st⟩:=rfl
    rw[this,hcs,hes,hmi];rfl
   have oL:Own h.n h1 Fi:=Mq o1
   have at1:At h1 b (off+(stripe id l.length).toNat * 2) (x.cs vL):=Oe (es:=2) (st:=0) hb hl hcs hA
   have hbn:b ∉ F1++(Fi++F2):=(List.nodup_cons.1 o1.1).1
   obtain⟨bL,aoH,rfl,mL,esL,Zi,-,-⟩:=rL.top oL (by omega)
   refine vs ?_
   refine Bp (by omega) (by omega) ?_
   refine vs ?_
   refine LU (by decide) esL mL Zi (by omega) ?_
   refine Bp (by omega) (by omega) ?_
   refine vs ?_
   refine vD (by decide) esL mL Zi (by omega) ?_
   refine als (α:=Trail) rL oL hil ?_
   intro h2 F' k2 r2 o2 hsub hn2
   have hb2:h2.get b=h1.get b:=k2.2 b hb fun hc=>hbn (by simp[hc])
   refine Bp (by omega) (by omega) (nN (Ig (by rw[hb2];exact hg) hA r2.cell rfl aX ?_))
   (repeat' first|refine vs ?_|fail)
   have hd1:∀ c∈F1++F2,c ∉ Fi∧c≠b∧c < h1.n:=by
    have hnd:=List.nodup_append.1 (List.nodup_cons.1 o1.1).2
    have pO:=List.nodup_append.1 hnd.2.1
    have hlt:=q1.lt
    intro c hc
    rcases List.mem_append.1 hc with hc'|hc'
    ·exact⟨fun hf=>hnd.2.2 c hc' c (List.mem_append_left _ hf) rfl,fun e=>hbn (e▸List.mem_append_left _ hc'),hlt c (by simp[hc'])⟩
    ·exact⟨fun hf=>pO.2.2 c hf c hc' rfl,fun e=>hbn (e▸List.mem_append_right _ (List.mem_append_right _ hc')),hlt c (by simp[hc'])⟩
   have hbF:b ∉ F':=fun hc=>hbn (by simp[hsub b hc])
   refine⟨rfl,_,rfl,?_,b::(F1++(F'++F2)),?_,?_⟩
   ·refine Ext.upd (Kp.ext e1 k2 fun c hc=>(oL.2 c hc).1) (o1.2 b (by simp)).1 _
   ·rw[Ma hx (by omega),show(idx (isId id) x.l).toNat=i by omega]
    refine back _ {x with l:=x.l.eraseIdx i} _ F' (by simp only[gY,if_true];rfl) (by simp only[gY,if_true];rfl) (by simp[live]) (by simpa using Nat.lt_of_lt_of_le hb k2.1) (fun c hc=>?_) ⟨_,rfl,?_⟩
    ·obtain⟨d1,d2,d3⟩:=hd1 c hc
     exact⟨by simp only[gY,d2,if_false];exact k2.2 c d3 d1,by simpa using Nat.lt_of_lt_of_le d3 k2.1⟩
    ·exact fC r2 hbF
   ·refine Xy o1 (o2.mono (Nat.le_refl _) fun c hc=>by have:c≠b:=fun e=>hbF (e▸hc);simp[this]) hsub fun c hc=>?_
    rcases List.mem_cons.1 hc with rfl|hc
    ·simp[hmi]
    ·obtain⟨d1,d2,d3⟩:=hd1 c hc
     simp only[gY,d2,if_false];rw[k2.2 c d3 d1]
  ·(repeat' first|refine vs ?_|fail)
   exact⟨rfl,_,rfl,e1,_,by rw[XT hx (by omega)];exact q1,o1⟩
end Go.Proofs.YtkdjapahgmflbaaGreat
end
section
set_option maxHeartbeats 2000000
namespace Go.Proofs.YtkdjapahgmflbaaGreat
open Go Go.Ab
section
def Oz (x0 x1:AV):Prog:=Ln 0 x0 fun a=>.loop [.int .i64 0] (fun b=>Bn .lss (g b 0) a fun a=>.ite a (Ix 1 x0 (g b 0) fun a=>.op (.ld1 a) fun a=>Bn .eql x1 a fun a=>.ite a (.fin [.val (g b 0)]) (Bn .add (g b 0) (.int .i64 1) fun a=>.leaf 0 [a])) (.leaf 2 [g b 0])) fun a b=>aB a 1 (.leaf 1 b) (aB a 2 (.fin [.val (.int .i64 (-1))]) .bad)
theorem aay (x0 x1:AV):CC Tryz.prog Db [x0,x1] (Oz x0 x1):=cc Tryz.func367 [0,1,7,8] (fun _=>[])
def Ov (x0 x1:AV):Prog:=Cl Db [x0,x1] fun a=>Bn .geq a (.int .i64 0) fun a=>.fin [.val a]
theorem aap (x0 x1:AV):CC Tryz.prog C9 [x0,x1] (Ov x0 x1):=cc Tryz.func305
def SI (x0 x1:AV):Prog:=.loop [.int .i64 0] (fun a=>Ln 0 x0 fun b=>Bn .lss (g a 0) b fun b=>.ite b (Ix 1 x0 (g a 0) fun b=>.op (.ld1 b) fun b=>Bn .eql b x1 fun b=>.ite b (.fin [.val (.bool true)]) (Bn .add (g a 0) (.int .i64 1) fun a=>.leaf 0 [a])) (.leaf 2 [g a 0])) fun a b=>aB a 1 (.leaf 1 b) (aB a 2 (.fin [.val (.bool false)]) .bad)
theorem ag6 (x0 x1:AV):CC Tryz.prog EY [x0,x1] (SI x0 x1):=cc Tryz.func264 [0,1,5] (fun _=>[])
def Pz (x0:AV):Prog:=Ln 0 x0 fun a=>Cl bq [a,.int .i64 1,.int .i64 3] fun a=>.op (.una .not a) fun a=>.ite a (.fin [.val (.bool false)]) (Ln 0 x0 fun a=>.loop [.aC,.tup [],.tup [],.int .i64 0,.tup [],.tup [],.tup []] (fun b=>Bn .lss (g b 3) a fun a=>.ite a (Ix 2 x0 (g b 3) fun a=>Ld 2 a fun a=>.op (.alloc [.int .i64 0,.aC]) fun c=>.op (.st 2 c a) fun _=>Lg 0 c fun a=>Cl bq [a,.int .i64 (-1),.int .i64 4] fun a=>.op (.una .not a) fun a=>.ite a (.fin [.val (.bool false)]) (Lg 1 c fun a=>Ln 0 a fun d=>.loop [g b 0,.int .i64 0] (fun e=>Bn .lss (g e 1) d fun d=>.ite d (Ix 4 a (g e 1) fun a=>Ld 4 a fun a=>.op (.alloc [.int .i64 0,.int .i64 0,.int .i64 0,.aC]) fun d=>.op (.st 4 d a) fun _=>Ld 4 d fun a=>Cl EJ [a] fun a=>.op (.una .not a) fun a=>Gf a false 0 d fun f=>.gop a false (.mv x0) fun i=>.gop a false (.len 0 i) fun i=>.gop a false (.mv (g b 3)) fun b=>.gop a false (.call jU [f,i]) fun f=>.gop a false (.bin 0 .neq f b) fun b=>Pk a (.bool true) b fun a=>.gop a false (.mv (g e 1)) fun b=>.gop a false (.bin 0 .gtr b (.int .i64 0)) fun b=>.gop a false (.mv b) fun b=>Gf b true 1 c fun c=>.gop b true (.mv (g e 1)) fun f=>.gop b true (.bin 0 .sub f (.int .i64 1)) fun f=>.gop b true (.idx 4 c f) fun c=>Gf b true 0 c fun c=>Gf b true 0 d fun f=>.gop b true (.bin 0 .geq c f) fun c=>.gop a false (.pick b c (.bool false)) fun b=>Pk a (.bool true) b fun a=>.gop a false (.mv (g e 0)) fun b=>Gf a false 1 d fun c=>.gop a false (.call C9 [b,c]) fun b=>Pk a (.bool true) b fun a=>.ite a (.fin [.val (.bool false)]) (Lg 1 d fun a=>.op (.aU 1 1 [.int .i64 0] [(0,1,a)]) fun a=>.op (.app 1 8 (g e 0) a) fun a=>Bn .add (g e 1) (.int .i64 1) fun b=>.leaf 0 [a,b])) (.leaf 4 [g e 0,g e 1])) fun e f=>aB e 1 (.leaf 1 f) (aB e 4 (Bn .add (g b 3) (.int .i64 1) fun e=>.leaf 0 [g f 0,g b 3,c,e,a,d,g f 1]) .bad))) (.leaf 2 [g b 0,g b 1,g b 2,g b 3,g b 4,g b 5,g b 6])) fun a b=>aB a 1 (.leaf 1 b) (aB a 2 (.fin [.val (.bool true)]) .bad))
theorem ach (x0:AV):CC Tryz.prog Dx [x0] (Pz x0):=cc Tryz.func211 [0,3,4,5,12,13,14,24,25,26] (fun r=>if r=12 then[(0,[]),(1,[]),(2,[]),(3,[]),(4,[]),(5,[]),(6,[]),(7,[]),(9,[]),(8,[]),(10,[]),(11,[]),(12,[]),(13,[]),(14,[]),(15,[]),(16,[]),(17,[]),(18,[]),(19,[]),(20,[]),(21,[]),(22,[]),(23,[]),(24,[]),(25,[]),(26,[]),(27,[]),(28,[]),(29,[]),(30,[]),(31,[]),(32,[]),(33,[])] else[])
def O4 (x0:AV):Prog:=Ln 0 x0 fun a=>Cl bQ [a,.int .i64 1,.int .i64 3] fun a=>.op (.una .not a) fun a=>.ite a (.fin [.val (.bool false)]) (.op (.aU 1 0 [] []) fun a=>.loop [a,.int .i64 0,.tup []] (fun a=>Ln 0 x0 fun b=>Bn .lss (g a 1) b fun b=>.ite b (Ix 2 x0 (g a 1) fun b=>Lg 0 b fun b=>Cl bQ [b,.int .i64 (-1),.int .i64 4] fun b=>.op (.una .not b) fun b=>.ite b (.fin [.val (.bool false)]) (.loop [g a 0,.int .i64 0] (fun b=>Ix 2 x0 (g a 1) fun c=>Lg 1 c fun c=>Ln 0 c fun c=>Bn .lss (g b 1) c fun c=>.ite c (Ix 2 x0 (g a 1) fun c=>Lg 1 c fun c=>Ix 4 c (g b 1) fun c=>Ld 4 c fun c=>.op (.alloc [.int .i64 0,.int .i64 0,.int .i64 0,.aC]) fun d=>.op (.st 4 d c) fun _=>Ld 4 d fun c=>Cl Ej [c] fun c=>.op (.una .not c) fun c=>Gf c false 0 d fun e=>.gop c false (.mv x0) fun f=>.gop c false (.len 0 f) fun f=>.gop c false (.mv (g a 1)) fun i=>.gop c false (.call d9 [e,f]) fun e=>.gop c false (.bin 0 .neq e i) fun e=>Pk c (.bool true) e fun c=>.gop c false (.mv (g b 1)) fun e=>.gop c false (.bin 0 .gtr e (.int .i64 0)) fun e=>.gop c false (.mv e) fun e=>.gop e true (.mv x0) fun f=>.gop e true (.mv (g a 1)) fun a=>.gop e true (.idx 2 f a) fun a=>Gf e true 1 a fun a=>.gop e true (.mv (g b 1)) fun f=>.gop e true (.bin 0 .sub f (.int .i64 1)) fun f=>.gop e true (.idx 4 a f) fun a=>Gf e true 0 a fun a=>Gf e true 0 d fun f=>.gop e true (.bin 0 .geq a f) fun a=>.gop c false (.pick e a (.bool false)) fun a=>Pk c (.bool true) a fun a=>.gop a false (.mv (g b 0)) fun c=>Gf a false 1 d fun e=>.gop a false (.call EY [c,e]) fun c=>Pk a (.bool true) c fun a=>.ite a (.fin [.val (.bool false)]) (Lg 1 d fun a=>.op (.aU 1 1 [.int .i64 0] [(0,1,a)]) fun a=>.op (.app 1 8 (g b 0) a) fun a=>Bn .add (g b 1) (.int .i64 1) fun b=>.leaf 0 [a,b])) (.leaf 4 [g b 0,g b 1])) fun b c=>aB b 1 (.leaf 1 c) (aB b 4 (Bn .add (g a 1) (.int .i64 1) fun a=>.leaf 0 [g c 0,a,g c 1]) .bad))) (.leaf 2 [g a 0,g a 1,g a 2])) fun a b=>aB a 1 (.leaf 1 b) (aB a 2 (.fin [.val (.bool true)]) .bad))
theorem abM (x0:AV):CC Tryz.prog Dm [x0] (O4 x0):=cc Tryz.func152 [0,3,4,5] (fun r=>if r=13 then[(0,[]),(1,[]),(2,[]),(3,[]),(4,[]),(5,[]),(6,[]),(7,[]),(9,[]),(8,[]),(10,[]),(11,[]),(12,[]),(13,[]),(14,[]),(15,[]),(16,[]),(17,[]),(18,[]),(19,[]),(20,[]),(21,[]),(22,[]),(23,[]),(24,[]),(25,[]),(26,[]),(27,[]),(28,[]),(29,[]),(30,[]),(31,[]),(32,[]),(33,[]),(34,[]),(35,[]),(36,[])] else[])
end
theorem aat {h:AH} {xs:List Int} {v:AV} {F:List Nat} {n:Int} (r:au h v xs F):aM Tryz.prog Db [v,.int .i64 n] h (.int .i64 (idx (fun y=>decide (n=y)) xs)):=by
 refine reader (aay _ _) (by simp only[old]) ?_
 unfold Oz
 have hsm:=r.small
 refine bP r ?_
 refine aT xs.length (fun i vs h1=>vs=[.int .i64 (i:Int)]∧i≤xs.length∧h1=h∧cu xs (fun _ y=>decide (n=y)=false) i) ⟨rfl,Nat.zero_le _,rfl,up0⟩ ?_
 rintro i vs h1 _ ⟨rfl,hi,rfl,hu⟩
 simp only[g0]
 refine br (fun hlt=>?_) (fun hge=>?_)
 ·obtain⟨x,hx,-,-⟩:=aP (show i < xs.length by omega)
  (repeat' first|refine vs ?_|(refine br ?_ ?_<;>first|exact bx|intro _)|((with_reducible refine aY ?_);((refine ix ?_);rintro _ _ _ _ _ ⟨rfl,rfl⟩ _))|fail)
  ·rename_i he
   exact pi (wu hx (by simp[he]) fun j y hj hy=>hu j y hj hy).symm
  ·rename_i he
   exact⟨by omega,rfl,by omega,rfl,upS hu hx (by simp[he])⟩
 ·(repeat' first|refine vs ?_|fail)
  exact pi (BO fun j y hj hy=>hu j y (by omega) hy).symm
theorem aal {h:AH} {xs:List Int} {v:AV} {F:List Nat} {n:Int} (r:au h v xs F):aM Tryz.prog C9 [v,.int .i64 n] h (.bool (bp (n∈xs))):=by
 refine reader (aap _ _) (by simp only[old]) ?_
 unfold Ov
 (repeat' first|refine vs ?_|(refine br ?_ ?_<;>first|exact bx|intro _)|((with_reducible refine aA Db ?_);refine aJ (aat ah) ?_)|fail)
 ·rename_i hge
  rcases xY (fun y=>decide (n=y)) xs with⟨e,-⟩|⟨i,x,e,hx,hp,-⟩
  ·omega
  ·exact pt (by simp at hp;subst hp;exact List.mem_of_getElem? hx)
 ·rename_i hlt
  rcases xY (fun y=>decide (n=y)) xs with⟨e,hf⟩|⟨i,x,e,hx,hp,-⟩
  ·refine pf fun hm=>?_
   rw[List.filter_eq_self] at hf
   have:=hf n hm;simp at this
  ·omega
theorem agd {h:AH} {xs:List Int} {v:AV} {F:List Nat} {n:Int} (r:au h v xs F):aM Tryz.prog EY [v,.int .i64 n] h (.bool (bp (n∈xs))):=by
 refine reader (ag6 _ _) (by simp only[old]) ?_
 unfold SI
 have hsm:=r.small
 refine aT xs.length (fun i vs h1=>vs=[.int .i64 (i:Int)]∧i≤xs.length∧h1=h∧cu xs (fun _ y=>¬ y=n) i) ⟨rfl,Nat.zero_le _,rfl,up0⟩ ?_
 rintro i vs h1 _ ⟨rfl,hi,rfl,hu⟩
 simp only[g0]
 refine bP r ?_
 refine br (fun hlt=>?_) (fun hge=>?_)
 ·obtain⟨x,hx,-,-⟩:=aP (show i < xs.length by omega)
  (repeat' first|refine vs ?_|(refine br ?_ ?_<;>first|exact bx|intro _)|((with_reducible refine aY ?_);((refine ix ?_);rintro _ _ _ _ _ ⟨rfl,rfl⟩ _))|fail)
  ·rename_i he
   exact pt (by subst he;exact List.mem_of_getElem? hx)
  ·rename_i he
   exact⟨by omega,rfl,by omega,rfl,upS hu hx he⟩
 ·(repeat' first|refine vs ?_|fail)
  rw[show i=xs.length by omega] at hu
  exact pf fun hm=>fV hu n hm rfl
def Np (l:List aQ) (i:Nat) (x:aQ) (k:Nat) (t:Trail):Prop:=Gu t∧stripe t.id l.length=i∧(∀ u,0 < k→x.l[((k:Int) - 1).toNat]? =some u→¬ t.id≤u.id)∧t.stamp ∉ (allT (l.take i)++x.l.take k).map (·.stamp)
def MW (l:List aQ) (i:Nat) (x:aQ):Prop:=(-1≤x.held∧x.held≤4)∧∀ k t,x.l[k]? =some t→Np l i x k t
def A9 (l:List aQ):Prop:=(1≤(l.length:Int)∧(l.length:Int)≤3)∧∀ i x,l[i]? =some x→MW l i x
def stamps (l:List aQ) (i:Nat) (x:aQ) (k:Nat):List Int:=(allT (l.take i)++x.l.take k).map (·.stamp)
theorem Wp {l:List aQ} {i:Nat} {x:aQ} {k:Nat} {t:Trail} (ht:x.l.take (k+1)=x.l.take k++[t]):stamps l i x (k+1)=stamps l i x k++[t.stamp]:=by unfold stamps;rw[ht,←List.append_assoc,List.map_append];rfl
theorem Wq {l:List aQ} {i:Nat} {x:aQ} (ht:l.take (i+1)=l.take i++[x]):stamps l i x x.l.length=(allT (l.take (i+1))).map (·.stamp):=by unfold stamps;rw[Cb ht,List.take_length]
theorem Va (l:List aQ) (i:Nat) (x:aQ) (k:Nat):(stamps l i x k).length≤szs (l.take i)+x.l.length:=by
 have:=wC (l.take i)
 unfold stamps;rw[List.length_map,List.length_append,List.length_take];omega
theorem abp {h:AH} {l:List aQ} {v:AV} {F:List Nat} (ok:∀ x∈l,Cel.ok x) (hs:l.length+szs l≤67108864) (r:au h v l F):aM Tryz.prog Dx [v] h (.bool (bp (A9 l))):=by
 refine reader (ach _) (by simp only[old]) ?_
 unfold Pz
 have hsm:=r.small
 (repeat' first|refine vs ?_|((with_reducible refine aA bq ?_);(refine bU eZ ?_ ?_<;>intro hb<;>first|replace hb:=dx hb|replace hb:=dz hb))|fail)
 rotate_left
 ·exact pf (fun k=>by have:=k.1;omega)
 refine aT l.length (fun i vs h1=>∃ u G z1 z2 z4 z5 z6,vs=[u,z1,z2,.int .i64 (i:Int),z4,z5,z6]∧i≤l.length∧Ext h h1∧au h1 u ((allT (l.take i)).map (·.stamp)) G∧Own h.n h1 G∧cu l (MW l) i) ⟨.aC,[],_,_,_,_,_,rfl,Nat.zero_le _,Ext.refl _,au.aC,Own.nil,up0⟩ ?_
 rintro i vs h1 _ ⟨u,G,z1,z2,z4,z5,z6,rfl,hi,e1,ru,ou,hu⟩
 have n1:=e1.1
 simp only[g0,g3]
 refine br (fun hlt=>?_) (fun hge=>?_)
 ·obtain⟨x,hx,-,htk⟩:=aP (show i < l.length by omega)
  have hxm:=List.mem_of_getElem? hx
  have hm:=bC hxm
  have hx2:Sz.sz x=x.l.length+szs x.l:=rfl
  have okx:=ok x hxm
  refine vs ?_
  refine bV r hx rfl ?_
  rintro b o _ Fi a ⟨v0,rfl,r0⟩ _
  (repeat' first|refine vs ?_|((with_reducible refine aA bq ?_);(refine bU eZ ?_ ?_<;>intro hb<;>first|replace hb:=dx hb|replace hb:=dz hb))|fail)
  rotate_left
  ·exact pf (fun k=>by have:=(k.2 i x hx).1;omega)
  have hle:=jJ l i
  refine aT x.l.length (fun k vs h2=>∃ u G,vs=[u,.int .i64 (k:Int)]∧k≤x.l.length∧Ext h h2∧Bk h2 h1.n [.int .i64 x.held,v0] 0∧h1.n ∉ G∧au h2 u (stamps l i x k) G∧Own h.n h2 G∧cu x.l (Np l i x) k) ⟨u,G,rfl,Nat.zero_le _,aD,aV,yP ru (Nat.le_refl _),by unfold stamps;rw[List.take_zero,List.append_nil];exact ah,bA,up0⟩ ?_
  rintro k vs h2 _ ⟨u2,G2,rfl,hk,e2,bk2,nb2,ru2,ou2,hu2⟩
  have n2:=e2.1
  have nb:=bk2.1
  simp only[g0,g1]
  refine br (fun hlt2=>?_) (fun nk=>?_)
  ·obtain⟨t,ht,-,nY⟩:=aP (show k < x.l.length by omega)
   have htm:=List.mem_of_getElem? ht
   have hm2:=bC htm
   have okt:=okx.2 t htm
   have hsl:=Va l i x k
   (repeat' first|refine vs ?_|(refine br ?_ ?_<;>first|exact bx|intro _)|((with_reducible refine aA EJ ?_);(refine aS (aeA okt.2.2.2 (by omega) ah) ?_ ?_<;>intro hn))|((with_reducible refine aA jU ?_);refine aJ rZ ?_)|((with_reducible refine aA C9 ?_);(refine aS (aal ah) ?_ ?_<;>intro hc))|((with_reducible refine aY ?_);((first|refine ix ?_|(refine ku ?_;intro _ _));rintro _ _ _ _ _ ⟨_,rfl,_⟩ _))|fail)
   all_goals first
    |(refine pf fun k1=>?_;have k1:=(k1.2 i x hx).2 k t ht;obtain⟨a1,a2,a3,a4⟩:=k1;first|contradiction|exact a3 _ (by omega) (by assumption) (by omega))
    |skip
   all_goals
    refine iJ (n:=h.n) (xs:=stamps l i x k) (Fx:=G2) (a:=t.stamp) ah ⟨rfl,rfl⟩ (by rw[List.append_nil];exact bA) aO rfl ?_ ?_ ?_
    ·omega
    ·omega
    intro u' h' F' ek kp r' o' hF'
    (repeat' first|refine vs ?_|fail)
    refine⟨by omega,u',F',rfl,by omega,ek h aD (Nat.le_refl _),bF kp aV nb2,fun hc=>?_,by rw[Wp nY];exact r',o',upS hu2 ht ⟨by assumption,by omega,fun u h0 hu=>?_,by assumption⟩⟩
    ·rcases hF' _ hc with hc|hc|hc
     ·exact nb2 hc
     ·cases hc
     ·simp only[aH] at hc;omega
    ·first
     |(exfalso;omega)
     |(simp_all;done)
     |(simp_all;omega)
  ·(repeat' first|refine vs ?_|fail)
   have e:k=x.l.length:=by omega
   rw[e,Wq htk] at ru2
   rw[e] at hu2
   exact⟨by omega,u2,G2,_,_,_,_,_,rfl,by omega,aD,ru2,ou2,upS hu hx ⟨by omega,fun k t ht=>kP hu2 k t ht⟩⟩
 ·(repeat' first|refine vs ?_|fail)
  rw[show i=l.length by omega] at hu
  exact pt ⟨by omega,fun i x hx=>kP hu i x hx⟩
theorem aa8 {h:AH} {l:List aQ} {v:AV} {F:List Nat} (ok:∀ x∈l,Cel.ok x) (hs:l.length+szs l≤67108864) (r:au h v l F):aM Tryz.prog Dm [v] h (.bool (bp (A9 l))):=by
 refine reader (abM _) (by simp only[old]) ?_
 unfold O4
 have hsm:=r.small
 (repeat' first|refine vs ?_|((with_reducible refine aA bQ ?_);(refine bU jr ?_ ?_<;>intro hb<;>first|replace hb:=dx hb|replace hb:=dz hb))|fail)
 rotate_left
 ·exact pf (fun k=>by have:=k.1;omega)
 obtain⟨re,oe⟩:=jy (h:=h) (α:=Int) (w:=1) rfl
 refine aT l.length (fun i vs h1=>∃ u G z,vs=[u,.int .i64 (i:Int),z]∧i≤l.length∧Ext h h1∧au h1 u ((allT (l.take i)).map (·.stamp)) G∧Own h.n h1 G∧cu l (MW l) i) ⟨_,_,_,rfl,Nat.zero_le _,aD,re,oe _ (Nat.le_refl _),up0⟩ ?_
 rintro i vs h1 _ ⟨u,G,z,rfl,hi,e1,ru,ou,hu⟩
 have n1:=e1.1
 simp only[g0,g1]
 refine bP r ?_
 refine br (fun hlt=>?_) (fun hge=>?_)
 ·obtain⟨x,hx,-,htk⟩:=aP (show i < l.length by omega)
  have hxm:=List.mem_of_getElem? hx
  have hm:=bC hxm
  have hx2:Sz.sz x=x.l.length+szs x.l:=rfl
  have okx:=ok x hxm
  (repeat' first|refine vs ?_|((with_reducible refine aA bQ ?_);(refine bU jr ?_ ?_<;>intro hb<;>first|replace hb:=dx hb|replace hb:=dz hb))|((with_reducible refine aY ?_);((refine ix ?_);rintro _ _ _ _ _ ⟨_,rfl,_⟩ _))|fail)
  rotate_left
  ·exact pf (fun k=>by have:=(k.2 i x hx).1;omega)
  have hle:=jJ l i
  refine aT x.l.length (fun k vs h2=>∃ u G,vs=[u,.int .i64 (k:Int)]∧k≤x.l.length∧Ext h h2∧au h2 u (stamps l i x k) G∧Own h.n h2 G∧cu x.l (Np l i x) k) ⟨u,G,rfl,Nat.zero_le _,aD,by unfold stamps;rw[List.take_zero,List.append_nil];exact ah,bA,up0⟩ ?_
  rintro k vs h2 _ ⟨u2,G2,rfl,hk,e2,ru2,ou2,hu2⟩
  have n2:=e2.1
  simp only[g0,g1]
  refine bV r hx rfl ?_
  rintro b o _ Fi a ⟨v0,rfl,r0⟩ _
  refine vs ?_
  refine br (fun hlt2=>?_) (fun nk=>?_)
  ·obtain⟨t,ht,-,nY⟩:=aP (show k < x.l.length by omega)
   have htm:=List.mem_of_getElem? ht
   have hm2:=bC htm
   have okt:=okx.2 t htm
   have hsl:=Va l i x k
   (repeat' first|refine vs ?_|(refine br ?_ ?_<;>first|exact bx|intro _)|((with_reducible refine aA Ej ?_);(refine aS (adZ okt.2.2.2 (by omega) ah) ?_ ?_<;>intro hn))|((with_reducible refine aA d9 ?_);refine aJ iD ?_)|((with_reducible refine aA EY ?_);(refine aS (agd ah) ?_ ?_<;>intro hc))|((with_reducible refine aY ?_);((first|refine ix ?_|(refine ku ?_;intro _ _));rintro _ _ _ _ _ ⟨_,rfl,_⟩ _))|fail)
   all_goals first
    |(refine pf fun k1=>?_;have k1:=(k1.2 i x hx).2 k t ht;obtain⟨a1,a2,a3,a4⟩:=k1;first|contradiction|exact a3 _ (by omega) (by assumption) (by omega))
    |skip
   all_goals
    refine app1 (n:=h.n) (xs:=stamps l i x k) (Fx:=G2) (a:=t.stamp) ah ⟨rfl,rfl⟩ (by rw[List.append_nil];exact bA) aO rfl ?_ ?_ ?_
    ·omega
    ·omega
    intro u' h' F' ek kp r' o'
    (repeat' first|refine vs ?_|fail)
    refine⟨by omega,u',F',rfl,by omega,ek h aD (Nat.le_refl _),by rw[Wp nY];exact r',o',upS hu2 ht ⟨by assumption,by omega,fun u h0 hu=>?_,by assumption⟩⟩
    first
     |(exfalso;omega)
     |(simp_all;done)
     |(simp_all;omega)
  ·(repeat' first|refine vs ?_|fail)
   have e:k=x.l.length:=by omega
   rw[e,Wq htk] at ru2
   rw[e] at hu2
   exact⟨by omega,u2,G2,_,rfl,by omega,aD,ru2,ou2,upS hu hx ⟨by omega,fun k t ht=>kP hu2 k t ht⟩⟩
 ·(repeat' first|refine vs ?_|fail)
  rw[show i=l.length by omega] at hu
  exact pt ⟨by omega,fun i x hx=>kP hu i x hx⟩
end Go.Proofs.YtkdjapahgmflbaaGreat
end
section
namespace Go.Proofs.YtkdjapahgmflbaaGreat
open Go Go.Ab
end Go.Proofs.YtkdjapahgmflbaaGreat
end
section
set_option maxHeartbeats 2000000
namespace Go.Proofs.YtkdjapahgmflbaaGreat
open Go Go.Ab
section
def Pt (x0:AV):Prog:=Ln 0 x0 fun a=>.loop [.aC,.int .i64 0] (fun b=>Bn .lss (g b 1) a fun a=>.ite a (Ix 7 x0 (g b 1) fun a=>Ld 7 a fun a=>.op (.alloc iO) fun c=>.op (.st 7 c a) fun _=>.op (.fad 0 c) fun a=>.op (.ld1 a) fun d=>.op (.fad 1 c) fun c=>Ld 6 c fun c=>Cl kY [c] fun c=>.chk (.ld1 a) d (.op (.build iO [(0,1,d),(1,6,c)]) fun a=>.op (.aU 7 1 iO [(0,7,a)]) fun a=>.op (.app 7 72 (g b 0) a) fun a=>Bn .add (g b 1) (.int .i64 1) fun b=>.leaf 0 [a,b])) (.leaf 2 [g b 0,g b 1])) fun a b=>aB a 1 (.leaf 1 b) (aB a 2 (.fin [.val (g b 0)]) .bad)
theorem ab9 (x0:AV):CC Tryz.prog wZ [x0] (Pt x0):=cc Tryz.func174 [3,6,7,8] (fun r=>if r=5 then[(0,[]),(1,[]),(2,[]),(3,[]),(4,[]),(5,[2]),(6,[]),(7,[]),(8,[]),(9,[])] else[])
def PZ (x0:AV):Prog:=.op (.aU 7 0 [] []) fun a=>.loop [a,.int .i64 0] (fun a=>Ln 0 x0 fun b=>Bn .lss (g a 1) b fun b=>.ite b (Ix 7 x0 (g a 1) fun b=>.op (.fad 0 b) fun b=>.op (.ld1 b) fun c=>Ix 7 x0 (g a 1) fun d=>.op (.fad 1 d) fun d=>Ld 6 d fun d=>Cl lW [d] fun d=>.chk (.ld1 b) c (.op (.build iO [(0,1,c),(1,6,d)]) fun b=>.op (.aU 7 1 iO [(0,7,b)]) fun b=>.op (.app 7 72 (g a 0) b) fun b=>Bn .add (g a 1) (.int .i64 1) fun a=>.leaf 0 [b,a])) (.leaf 2 [g a 0,g a 1])) fun a b=>aB a 1 (.leaf 1 b) (aB a 2 (.fin [.val (g b 0)]) .bad)
theorem ac5 (x0:AV):CC Tryz.prog w9 [x0] (PZ x0):=cc Tryz.func148 [0,3,4] (fun r=>if r=5 then[(0,[]),(1,[]),(2,[]),(3,[]),(4,[]),(5,[]),(6,[]),(7,[]),(8,[]),(9,[]),(10,[]),(11,[5]),(12,[]),(13,[]),(14,[]),(15,[])] else[])
end
theorem Jm (xs:List Itm) (hs:xs.length+szs xs≤67108864):gG Tryz.prog wZ xs:=by
 intro v F h r
 refine ab9 _ ?_
 unfold Pt
 have hsm:=r.small
 refine bP r ?_
 refine aT xs.length (fun i vs h1=>∃ u G,vs=[u,.int .i64 (i:Int)]∧i≤xs.length∧Ext h h1∧au h1 u (xs.take i) G∧Own h.n h1 G) ⟨.aC,[],rfl,Nat.zero_le _,Ext.refl _,au.aC,Own.nil⟩ ?_
 rintro i vs h1 _ ⟨u,G,rfl,hi,e1,ru,ou⟩
 have n1:=e1.1
 simp only[g0,g1]
 refine br (fun hlt=>?_) (fun hge=>?_)
 ·obtain⟨x,hx,-,htk⟩:=aP (show i < xs.length by omega)
  have hm:=bC (List.mem_of_getElem? hx)
  have hx2:Sz.sz x=Sz.sz x.s:=rfl
  refine vs ?_
  refine bV r hx rfl ?_
  rintro b o _ Fi a ⟨v0,rfl,r0⟩ _
  (repeat' first|refine vs ?_|((with_reducible refine aA kY ?_);(refine aK (rY x.s (by omega) _ _ _ ⟨_,rfl,ah⟩) ?_;rintro _ h2 ⟨e2,_,G2,rfl,⟨w2,rfl,q2⟩,o2⟩;have n2:=e2.1;(try simp only[aH,aN] at n2)))|fail)
  have hlen:(xs.take i).length=i:=by rw[List.length_take];omega
  refine app1 (n:=h.n) (xs:=xs.take i) (Fx:=G) (a:=x) ah ⟨_,rfl,q2⟩ (fK (bA) o2 (by simp only[aH];omega) kK) aO rfl ?_ ?_ ?_
  ·rw[hlen];omega
  ·rw[hlen];omega
  intro u' h' F' ek kp r' o'
  (repeat' first|refine vs ?_|fail)
  exact⟨by omega,u',F',rfl,by omega,ek h aD (Nat.le_refl _),by rw[htk];exact r',o'⟩
 ·(repeat' first|refine vs ?_|fail)
  exact⟨rfl,u,rfl,e1,G,by rw[show i=xs.length by omega,List.take_length] at ru;exact ru,ou⟩
theorem JA (xs:List Itm) (hs:xs.length+szs xs≤67108864):gG Tryz.prog w9 xs:=by
 intro v F h r
 refine ac5 _ ?_
 unfold PZ
 have hsm:=r.small
 obtain⟨re,oe⟩:=jy (h:=h) (α:=Itm) (w:=7) rfl
 refine vs ?_
 refine aT xs.length (fun i vs h1=>∃ u G,vs=[u,.int .i64 (i:Int)]∧i≤xs.length∧Ext h h1∧au h1 u (xs.take i) G∧Own h.n h1 G) ⟨_,_,rfl,Nat.zero_le _,(Ext.refl _).push _,by rw[List.take_zero];exact re,oe _ (Nat.le_refl _)⟩ ?_
 rintro i vs h1 _ ⟨u,G,rfl,hi,e1,ru,ou⟩
 have n1:=e1.1
 simp only[g0,g1]
 refine bP r ?_
 refine br (fun hlt=>?_) (fun hge=>?_)
 ·obtain⟨x,hx,-,htk⟩:=aP (show i < xs.length by omega)
  have hm:=bC (List.mem_of_getElem? hx)
  have hx2:Sz.sz x=Sz.sz x.s:=rfl
  (repeat' first|refine vs ?_|((with_reducible refine aA lW ?_);(refine aK (sI x.s (by omega) _ _ _ ⟨_,rfl,ah⟩) ?_;rintro _ h2 ⟨e2,_,G2,rfl,⟨w2,rfl,q2⟩,o2⟩;have n2:=e2.1;(try simp only[aH,aN] at n2)))|((with_reducible refine aY ?_);((refine ix ?_);rintro _ _ _ _ _ ⟨_,rfl,_⟩ _))|fail)
  have hlen:(xs.take i).length=i:=by rw[List.length_take];omega
  refine app1 (n:=h.n) (xs:=xs.take i) (Fx:=G) (a:=x) ah ⟨_,rfl,q2⟩ (fK (bA) o2 (by omega) kK) aO rfl ?_ ?_ ?_
  ·rw[hlen];omega
  ·rw[hlen];omega
  intro u' h' F' ek kp r' o'
  (repeat' first|refine vs ?_|fail)
  exact⟨by omega,u',F',rfl,by omega,ek h aD (Nat.le_refl _),by rw[htk];exact r',o'⟩
 ·(repeat' first|refine vs ?_|fail)
  exact⟨rfl,u,rfl,e1,G,by rw[show i=xs.length by omega,List.take_length] at ru;exact ru,ou⟩
end Go.Proofs.YtkdjapahgmflbaaGreat
end
section
set_option maxHeartbeats 2000000
namespace Go.Proofs.YtkdjapahgmflbaaGreat
open Go Go.Ab
section
def Pv (x0:AV):Prog:=Ln 0 x0 fun a=>.loop [.aC,.int .i64 0] (fun b=>Bn .lss (g b 1) a fun a=>.ite a (Ix 20 x0 (g b 1) fun a=>Ld 20 a fun a=>.op (.alloc iV) fun c=>.op (.st 20 c a) fun _=>.op (.fad 2 c) fun a=>Ld 6 a fun a=>Cl kY [a] fun a=>.op (.fad 2 c) fun d=>.op (.st 6 d a) fun _=>Ld 20 c fun a=>.op (.aU 20 1 iV [(0,20,a)]) fun a=>.op (.app 20 168 (g b 0) a) fun a=>Bn .add (g b 1) (.int .i64 1) fun b=>.leaf 0 [a,b]) (.leaf 2 [g b 0,g b 1])) fun a b=>aB a 1 (.leaf 1 b) (aB a 2 (.fin [.val (g b 0)]) .bad)
theorem acd (x0:AV):CC Tryz.prog Ju [x0] (Pv x0):=cc Tryz.func175 [3,6,7,8] (fun _=>[])
def Q9 (x0:AV):Prog:=.op (.box x0) fun a=>.op (.alloc iV) fun b=>.op (.fad 2 a) fun c=>Ld 6 c fun c=>Cl lW [c] fun c=>.op (.fad 2 a) fun d=>.op (.st 6 d c) fun _=>Ld 20 a fun a=>.op (.st 20 b a) fun _=>.fin [.cn 20 b]
theorem ae5 (x0:AV):CC Tryz.prog Ke [x0] (Q9 x0):=cc Tryz.func261
end
theorem abn (xs:List bI) (hs:xs.length+szs xs≤67108864):gG Tryz.prog Ju xs:=by
 intro v F h r
 refine acd _ ?_
 unfold Pv
 have hsm:=r.small
 refine bP r ?_
 refine aT xs.length (fun i vs h1=>∃ u G,vs=[u,.int .i64 (i:Int)]∧i≤xs.length∧Ext h h1∧au h1 u (xs.take i) G∧Own h.n h1 G) ⟨.aC,[],rfl,Nat.zero_le _,Ext.refl _,au.aC,Own.nil⟩ ?_
 rintro i vs h1 _ ⟨u,G,rfl,hi,e1,ru,ou⟩
 have n1:=e1.1
 simp only[g0,g1]
 refine br (fun hlt=>?_) (fun hge=>?_)
 ·obtain⟨x,hx,-,htk⟩:=aP (show i < xs.length by omega)
  have hm:=bC (List.mem_of_getElem? hx)
  have hx2:Sz.sz x=Sz.sz x.s:=rfl
  refine vs ?_
  refine bV r hx rfl ?_
  rintro b o _ Fi a ⟨v0,rfl,r0⟩ _
  (repeat' first|refine vs ?_|((with_reducible refine aA kY ?_);(refine aK (rY x.s (by omega) _ _ _ ⟨_,rfl,ah⟩) ?_;rintro _ h2 ⟨e2,_,G2,rfl,⟨w2,rfl,q2⟩,o2⟩;have n2:=e2.1;(try simp only[aH,aN] at n2)))|fail)
  have hlen:(xs.take i).length=i:=by rw[List.length_take];omega
  refine app1 (n:=h.n) (xs:=xs.take i) (Fx:=G) (a:=x) ah ⟨_,rfl,ah⟩ (fK (bA) (bA:Own (h1.n+1) _ G2) (by omega) kK) aO rfl ?_ ?_ ?_
  ·rw[hlen];omega
  ·rw[hlen];omega
  intro u' h' F' ek kp r' o'
  (repeat' first|refine vs ?_|fail)
  exact⟨by omega,u',F',rfl,by omega,ek h aD (Nat.le_refl _),by rw[htk];exact r',o'⟩
 ·(repeat' first|refine vs ?_|fail)
  exact⟨rfl,u,rfl,e1,G,by rw[show i=xs.length by omega,List.take_length] at ru;exact ru,ou⟩
theorem adW (x:bI) (hs:Sz.sz x≤67108864):dO bI Tryz.prog Ke x:=by
 rintro cs F h ⟨v0,rfl,r0⟩
 have hx2:Sz.sz x=Sz.sz x.s:=rfl
 refine ae5 _ ?_
 unfold Q9
 (repeat' first|refine vs ?_|((with_reducible refine aA lW ?_);(refine aK (sI x.s (by omega) _ _ _ ⟨_,rfl,ah⟩) ?_;rintro _ h2 ⟨e2,_,G2,rfl,⟨w2,rfl,q2⟩,o2⟩;have n2:=e2.1;(try simp only[aH,aN] at n2)))|fail)
 exact⟨rfl,_,rfl,aD,_,_,rfl,⟨_,rfl,ah⟩,bA⟩
end Go.Proofs.YtkdjapahgmflbaaGreat
end
section
set_option maxHeartbeats 2000000
namespace Go.Proofs.YtkdjapahgmflbaaGreat
open Go Go.Ab
section
def agQ (x0:AV):Prog:=.op (.aU 20 0 [] []) fun a=>.loop [a,.int .i64 0] (fun a=>Ln 0 x0 fun b=>Bn .lss (g a 1) b fun b=>.ite b (Ix 20 x0 (g a 1) fun b=>Ld 20 b fun b=>Cl Ke [b] fun b=>.op (.alloc iV) fun c=>.op (.st 20 c b) fun _=>Ld 20 c fun b=>.op (.aU 20 1 iV [(0,20,b)]) fun b=>.op (.app 20 168 (g a 0) b) fun b=>Bn .add (g a 1) (.int .i64 1) fun a=>.leaf 0 [b,a]) (.leaf 2 [g a 0,g a 1])) fun a b=>aB a 1 (.leaf 1 b) (aB a 2 (.fin [.val (g b 0)]) .bad)
theorem ag5 (x0:AV):CC Tryz.prog KF [x0] (agQ x0):=cc Tryz.func150 [0,3,4] (fun _=>[])
def Ra (x0:AV):Prog:=.op (.box x0) fun a=>.op (.alloc gJ) fun b=>Ld 12 a fun c=>.op (.alloc gJ) fun d=>.op (.st 12 d c) fun _=>.op (.fad 2 a) fun c=>Ld 6 c fun c=>Cl lW [c] fun c=>.op (.fad 2 d) fun e=>.op (.st 6 e c) fun _=>Lg 10 a fun a=>Cl w9 [a] fun a=>Sg 10 d a fun _=>Ld 12 d fun a=>.op (.st 12 b a) fun _=>.fin [.cn 12 b]
theorem ae6 (x0:AV):CC Tryz.prog Eh [x0] (Ra x0):=cc Tryz.func149
end
theorem agc (xs:List bI) (hs:xs.length+szs xs≤67108864):gG Tryz.prog KF xs:=fun v F h r=>
 ag5 _ (LK rfl rfl (by decide) (fun x hx=>adW x (by have:=bC hx;omega)) r (by omega))
theorem adX (x:Task) (hs:Sz.sz x≤67108864):dO Task Tryz.prog Eh x:=by
 rintro cs F h ⟨v0,v1,F0,F1,rfl,rfl,r0,r1⟩
 have hx2:Sz.sz x=Sz.sz x.s+(x.hand.length+szs x.hand):=rfl
 refine ae6 _ ?_
 unfold Ra
 (repeat' first|refine vs ?_|((with_reducible refine aA lW ?_);(refine aK (sI x.s (by omega) _ _ _ ⟨_,rfl,ah⟩) ?_;rintro _ h2 ⟨e2,_,G2,rfl,⟨w2,rfl,q2⟩,o2⟩;have n2:=e2.1;(try simp only[aH,aN] at n2)))|((with_reducible refine aA w9 ?_);(refine aK (JA x.hand (by omega) _ _ _ ah) ?_;rintro w3 h3 ⟨e3,G3,q3,o3⟩;have n3:=e3.1;(try simp only[aH,aN] at n3)))|fail)
 exact⟨rfl,_,rfl,aD,_,_,rfl,⟨_,_,_,_,rfl,rfl,ah,ah⟩,(dK cK cK kK).1⟩
end Go.Proofs.YtkdjapahgmflbaaGreat
end
